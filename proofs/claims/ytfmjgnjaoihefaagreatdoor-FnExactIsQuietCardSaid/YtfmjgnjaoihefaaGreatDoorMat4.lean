/-
  Contracts of functions of the program, walked (printed by a program of ours).
  Conditions: those that each theorem states.
-/
import Derived.Test.YtfmjgnjaoihefaaGreatDoorFct
import Derived.Test.YtfmjgnjaoihefaaGreatDoorMat3
import Derived.Test.YtfmjgnjaoihefaaGreatDoorCmp2
set_option linter.unusedVariables false
set_option maxRecDepth 20000
namespace Go.Sy.Mat4
open Go Go.RowKit Go.Proofs Go.Sy
open Go.Sy.Bel1 Go.Sy.Ev1 Go.Sy.Ev2 Go.Sy.Fmt1 Go.Sy.Eng1 Go.Sy.Eng2 Go.Sy.Eng3 Go.Sy.Num1 Go.Sy.Num2 Go.Sy.Fal2 Go.Sy.Cho2 Go.Sy.Mat1 Go.Sy.Num3 Go.Sy.Mat2 Go.Sy.Cmp2 Go.Sy.Mat3
set_option maxHeartbeats 8000000 in
theorem laws_FnExactIsQuiet(w:World)(d:List Value)(aE:Engine)(a:Gd.rd w d aE)(f:QC aE)(l:Tb w):Cy 6 [(.agg d.toArray)] w (Val w (.bool (true))):=by
 obtain⟨u1,u3,u5,u7,rfl,m,n,o,p⟩:=C6 a;have ab:=rM m;have v:=rM n;have x:=rM o;have y:=rM p;refine CX 27 Tryz.func6 Y Y Y (GL w w) (Sr (bX Y λg13=>?_));refine Pe Y (Dh ([bx g13 [u1,u3,(iv aE.Clock),u5,(.bool aE.Halted),u7],fz w w]) Y (Sr (Pe Y (Sr (q1 Y (C9 0 qM Y Y Y) (p1 Y (qv b_8 Y (λw' hs=>(V2 (B0 1 (E4.refl _) hs Y a) (by first|assumption|omega|(unfold ED at*;split at* <;>omega)) (by first|assumption|omega|(unfold ED at*;split at* <;>omega)) f)) (Pe Y (Cq (Sr (P2 Y Y (Dx (Cd Y (λb=>?_) (λb=>?_))))))))))))))
 ·refine Sr (Pe Y (Ct (Xr (Rb Y Y ?_))))
  first|rfl|(exfalso;omega)|(exfalso;simp only[LL] at*;omega)|exact absurd (decide_eq_true b) (by simp)
 ·have q:=EE b;refine Sk (Cq ?_);have ac:DI aE<=1048576:=by unfold ED at*;split at* <;>omega
  have ad:=A2H aE;have ae:=nM aE;have af:=LL 1 (HY aE);refine Cr (q1 Y (C9 0 qM Y Y Y) (qs Y wG Y (λw' hs=>(IW (B0 1 (E4.refl _) hs Y a) (by first|assumption|omega|(unfold ED at*;split at* <;>omega)))) λz=>?_));refine Dp (λw' hs=>H5 (rO (k:=0) hs Y)) ?_;rintro⟨r,v17,s,t,rfl,a0,a1,a2,a3⟩;refine qv C3k Y (λw' hs=>(C4E (rO (k:=0) hs Y) (by first|assumption|omega|(unfold ED at*;split at* <;>omega)) f)) (Pe Y (Dh ([ov [r,v17,(iv aE.Clock),s,(.bool aE.Halted),t] (aE:Engine),_,_]) Y (Sr (q1 Y (C9 1 qM Y Y Y) (qs Y wG Y (λw' hs=>(IW (B0 2 (E4.refl _) hs Y a) (by first|assumption|omega|(unfold ED at*;split at* <;>omega)))) λa4=>?_)))));refine Dp (λw' hs=>H5 (rO (k:=0) hs Y)) ?_;rintro⟨v25,v26,v27,v28,rfl,g,h,i,j⟩;refine aL A1S Y λu=>?_
  refine li Y (AZ (vs:=[v25,v26,(iv aE.Clock),v27,(.bool aE.Halted),v28]) (cs':=[v25,v26,(iv aE.Clock),v27,(.bool aE.Halted),v28]) 0 A3b Y Y Y Y Y Y (AB g (AB h (AB Y (AB i (AB Y (AB j BR)))))) (by simp) Y ?_);refine Dx (Dh ([bx u [v25,v26,(iv aE.Clock),v27,(.bool aE.Halted),v28],ov [v25,v26,(iv aE.Clock),v27,(.bool aE.Halted),v28] (aE:Engine),_,_,_]) Y (Sr (q1 Y (C9 0 YR Y Y Y) (qv C3r Y (λw' hs=>(C4D (rO (k:=1) hs Y) (by first|assumption|omega|(unfold ED at*;split at* <;>omega)) (Tb.ext l hs.bel))) (Pe Y (AH [1,4,5,6] Y (AG [0,1,3,4] Y (Cq (Sr (P2 Y Y (q1 Y (A2x A6m Y Y Y) (Dx (Ci _ Y (λe=>?_) (λe=>?_))))))))))))))
  ·refine Sr (Pe Y (Ct (Xr (Rb Y Y ?_))));exact absurd e (by simp)
  ·have a5:=fC e;refine Sk (Cq (Cq (A0 mixed [3,4] (by kernel_rfl) (Tk 0 Y Y (C9 0 YR Y Y Y) (Tk 1 Y Y (C9 2 qM Y Y Y) (ty 2 Y Y (zE Y wG Y Y Y Y (λw' hs=>(IW (B0 3 (E4.refl _) hs Y a) (by first|assumption|omega|(unfold ED at*;split at* <;>omega)))) λa6=>?_)))))));refine Dp (λw' hs=>H5 (rO (k:=0) hs Y)) ?_;rintro⟨v36,v37,v38,v39,rfl,a7,a8,a9,aa⟩;refine tS (λ_ hs=>hs.pk [1,2,3,4] Y Y) (ty 3 Y Y (cv A7M Y Y Y Y (λw' hs=>(V3 (rO (k:=2) hs Y) (rO (k:=0) hs Y))) ?_));refine tZ Y (tW 4 Y Y Y (tE (Xt (Dh ([ov [v36,v37,(iv aE.Clock),v38,(.bool aE.Halted),v39] (aE:Engine),_,_,_,_]) Y (CN Y (λc=>?_) (λc=>?_))))))
   ·refine Sr (Pe Y (Ct (Xr (Rb Y Y ?_))))
    first|rfl|(exfalso;omega)|(exfalso;simp only[LL] at*;omega)|exact absurd (VJ c) (by simp)
   ·refine Sk (Sr (Pe Y (Ct (Rb Y Y ?_))))
    first|rfl|(exfalso;omega)|(exfalso;simp only[LL] at*;omega)|exact absurd (TI c) (by simp)
end Go.Sy.Mat4
