/-
  Contracts of functions of the program, walked (printed by a program of ours).
  Conditions: those that each theorem states.
-/
import Derived.Test.YtfmjgnjaoihefaaGreatDoorFct
import Derived.Test.YtfmjgnjaoihefaaGreatDoorProg
import Derived.Test.YtfmjgnjaoihefaaGreatDoorTypes
import Derived.Test.YtfmjgnjaoihefaaGreatDoorBase
set_option linter.unusedVariables false
set_option maxRecDepth 20000
namespace Go.Sy.Bel1
open Go Go.RowKit Go.Proofs Go.Sy
theorem SE{w:World}{g:Value}{a:(List Int)}{m:Value}{b:(List Int)}(c:Gd.rd w [g] a)(d:Gd.rd w [m] b):Cy 141 [g,m] w (Val w (.bool (decide (a=b)))):=by
 have z:=rM c;have a0:=rM d;refine enter 26 Tryz.func141 Y Y Y (Sr (Pe Y (Cq (Sr (p1 Y (dl BS Y (AE c) (p1 Y (dl BS Y (AE d) (Pe Y (Cn Y (λt=>?_) (λt=>?_)))))))))))
 ·refine Sr (Pe Y (Ct (Xr (Rb Y Y ?_))));simp;intro e;subst e;simp_all
 ·refine Sk (Cq (Sr (Pe Y (Cb (Cl (λm_ ac w'=>∃(k:Nat),(k<=a.length)/\(∀i,i<k->a[i]?=b[i]?)/\m_=a.length-k/\Fits ac 26 [(0,g),(1,m),(5,(nv k))]/\St w ([]) w') ?_ ?_)))))
  ·refine λac w' hf hs=>⟨_,0,?_,?_,Y,hf.wk Y,hs⟩
   ·omega
   ·intro i hi;omega
  ·rintro m_ ac w' ⟨k,hk,hi,rfl,hf,hs⟩;refine D.use ?_ hf hs;clear hf hs ac w';refine Cq (Sr (P2 Y Y (dl BS Y (AE c) (Pe Y (Cd Y (λu=>?_) (λu=>?_))))))
   ·refine Sk (Cq (Cb (Cq (A0 mixed [] (by kernel_rfl) (tK 7 [0,1] Y ?_)))));obtain⟨x5,o⟩:=sI a k;obtain⟨v,at8,x⟩:=AC (n:=1) rfl c o;obtain rfl:v=[.int .i64 x5]:=x;refine Tk 2 Y Y (AJ (l:=a) (j:=k) BS Y Y Y (λw' hs=>(rA hs c)) Y (lS o)) (Tk 3 Y Y (HI CJ Y Y at8 Y) (tK 3 [4,5] Y ?_));obtain⟨y,f⟩:=sI b k;obtain⟨p,q,r⟩:=AC (n:=1) rfl d f;obtain rfl:p=[.int .i64 y]:=r;refine Tk 6 Y Y (AJ (l:=b) (j:=k) BS Y Y Y (λw' hs=>(rA hs d)) Y (lS f)) (Tk 7 Y Y (HI CJ Y Y q Y) (tR 8 Y Y (tE (Xt (Cn Y (λs=>?_) (λs=>?_))))))
    ·refine Sr (Pe Y (Ct (Xq (Xr (Xr (Xq (Xr (Rb Y Y ?_))))))));simp;intro e;subst e;simp_all
    ·refine Ck (Xb (Xt (Cr (p1 Y (ad (k+1) Y (Pe Y (λac w' hf hs=>⟨_,?_,k+1,?_,?_,Y,hf.wk Y,hs⟩)))))))
     ·omega
     ·omega
     ·exact DF hi ‹_› ‹_› (by simp_all)
   ·refine Cx (Xx (Xx (Xe (Xt (Sr (Pe Y (Ct (Rb Y Y ?_))))))));simp;exact C7 (by omega) (λi h=>hi i (by omega))
theorem E7{w:World}{x:Int}{least:Int}{a:Int}:Cy 90 [(iv x),(iv least),(iv a)] w (Val w (.bool (GO x least a))):=by
 refine enter 15 Tryz.func90 Y Y Y (Sr (Pe Y (Sr (P3 Y Y Y (p1 Y (EY 10 Y Y (λb=>?_) (λb=>?_)))))))
 ·refine P3 Y Y Y (P2 Y Y (Dx (Ct (Rb Y Y ?_))));show((decide ((x:Int)<=a)):Bool)=_;simp_all[GO];try omega
 ·refine n1 Y (n1 Y (n1 Y (P2 Y Y (Dx (Ct (Rb Y Y ?_))))));simp_all[GO];try omega
end Go.Sy.Bel1
