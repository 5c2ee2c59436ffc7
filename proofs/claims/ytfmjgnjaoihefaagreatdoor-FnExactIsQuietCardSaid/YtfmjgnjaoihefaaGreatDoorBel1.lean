/-
  Contracts of functions of the program, walked (printed by a program of ours).
  Conditions: those that each theorem states.
-/
import Derived.Test.YtfmjgnjaoihefaaGreatDoorFct
import Derived.Test.YtfmjgnjaoihefaaGreatDoorProg
import Derived.Test.YtfmjgnjaoihefaaGreatDoorTypes
import Derived.Test.YtfmjgnjaoihefaaGreatDoorBase
set_option linter.unusedVariables false
set_option maxRecDepth 20000
namespace Go.Sy.Bel1
open Go Go.RowKit Go.Proofs Go.Sy
theorem bK{w:World}{b:Value}{a:(List Int)}{left:Int}(c:Gd.rd w [b] a)(h0:0<=left)(h1:left<=1048576):Cy 142 [b,(iv left)] w (Val w (iv (ED a.length left))):=by
 have e:=rM c;refine enter 12 Tryz.func142 Y Y Y (Sr (Pe Y (Sr (P2 Y Y (dl BS Y (AE c) (q1 Y (B3 Y Y Y Y (by omega)) (Pe Y (Cq (Sr (P2 Y Y (Dx (Cd Y (λd=>?_) (λd=>?_)))))))))))))
 ·refine Sr (Pe Y (Ct (Xr (Ri Y Y ?_))));show((-1):Int)=_;exact(F8 (by omega)).symm
 ·refine Sk (Sr (P2 Y Y (Dx (Ct (Ri Y Y ?_)))));show((left-((a.length:Nat):Int)):Int)=_;exact(KV (by omega)).symm
theorem bL{w:World}{d:Value}{a:(List Int)}(b:Gd.rd w [d] a)(p:a.length<=1048576):Cy 156 [d] w (HH w (a:List Int)):=by
 have o:=rM b;refine enter 22 Tryz.func156 Y Y Y (Sr (Pe Y (Sr (p1 Y (dl BS Y (AE b) (li Y (A2z (α:=Int) (z:=0) BS vH Y Y Y Y (by omega) (by omega) λv2=>?_)))))));refine Pe Y (Dh ([ov [v2] (List.replicate a.length 0:(List Int))]) Y (Cq (Sr (Pe Y (Cb (Cl (λm_ ac w'=>∃(k:Nat),∃(v:Value),(k<=a.length)/\m_=a.length-k/\Fits ac 22 [(0,d),(3,v),(4,(nv k))]/\St w ([ov [v] (cp a 0 k:(List Int))]) w') ?_ ?_))))))
 ·refine A3 0 Y (show(List.replicate a.length 0:(List Int))=cp a 0 0 from by rw[KW]) (λac w' hf hs=>⟨_,0,v2,?_,Y,hf.wk Y,hs⟩)
  ·omega
 ·rintro m_ ac w' ⟨k,v,hk,rfl,hf,hs⟩;refine D.use ?_ hf hs;clear hf hs ac w';have hcl:=M5 a 0 k hk;refine Cq (Sr (P2 Y Y (dl BS Y (AE b) (Pe Y (Dh ([_]) Y (Cd Y (λg=>?_) (λg=>?_)))))))
  ·refine Sk (Cq (Cb (Cr (P3 Y Y Y (p1 Y ?_)))));obtain⟨f,e⟩:=sI a k;obtain⟨h,i,m⟩:=AC (n:=1) rfl b e;obtain rfl:h=[.int .i64 f]:=m;refine q1 Y (AJ (l:=a) (j:=k) BS Y Y Y (λw' hs=>(rA hs b)) Y (lS e)) (q1 Y (HI CJ Y Y i Y) ?_);obtain⟨q,c⟩:=sI (cp a 0 k) k;refine q1 Y (AJ (l:=(cp a 0 k)) (j:=k) BS Y Y Y (λw' hs=>(rO (k:=0) hs Y)) Y (lS c)) (li Y (so (α:=Int) (z:=f) 0 PC Y Y Y Y Y (lS c) ?_));refine De (Xb (Xt (Dh ([ov [v] ((cp a 0 k).set k f:(List Int))]) Y (Cr (p1 Y (ad (k+1) Y (Pe Y (A3 0 Y (show((cp a 0 k).set k f:(List Int))=cp a 0 (k+1) from by rw[M6 ‹_›]) (λac w' hf hs=>⟨_,?_,k+1,v,?_,Y,hf.wk Y,hs⟩)))))))))
   ·omega
   ·omega
  ·refine Cx (Xx (Xx (Xe (Xt (Sr (P2 Y Y (Dx (Ct (FV Y Y λw' hs=>A7 (k:=0) hs Y ?_)))))))));show cp a 0 k=a;exact KX (by omega)
theorem SE{w:World}{g:Value}{a:(List Int)}{m:Value}{b:(List Int)}(c:Gd.rd w [g] a)(d:Gd.rd w [m] b):Cy 141 [g,m] w (Val w (.bool (decide (a=b)))):=by
 have z:=rM c;have a0:=rM d;refine enter 26 Tryz.func141 Y Y Y (Sr (Pe Y (Cq (Sr (p1 Y (dl BS Y (AE c) (p1 Y (dl BS Y (AE d) (Pe Y (Cn Y (λt=>?_) (λt=>?_)))))))))))
 ·refine Sr (Pe Y (Ct (Xr (Rb Y Y ?_))));simp;intro e;subst e;simp_all
 ·refine Sk (Cq (Sr (Pe Y (Cb (Cl (λm_ ac w'=>∃(k:Nat),(k<=a.length)/\(∀i,i<k->a[i]?=b[i]?)/\m_=a.length-k/\Fits ac 26 [(0,g),(1,m),(5,(nv k))]/\St w ([]) w') ?_ ?_)))))
  ·refine λac w' hf hs=>⟨_,0,?_,?_,Y,hf.wk Y,hs⟩
   ·omega
   ·intro i hi;omega
  ·rintro m_ ac w' ⟨k,hk,hi,rfl,hf,hs⟩;refine D.use ?_ hf hs;clear hf hs ac w';refine Cq (Sr (P2 Y Y (dl BS Y (AE c) (Pe Y (Cd Y (λu=>?_) (λu=>?_))))))
   ·refine Sk (Cq (Cb (Cq (A0 mixed [] (by kernel_rfl) (tK 7 [0,1] Y ?_)))));obtain⟨x5,o⟩:=sI a k;obtain⟨v,at8,x⟩:=AC (n:=1) rfl c o;obtain rfl:v=[.int .i64 x5]:=x;refine Tk 2 Y Y (AJ (l:=a) (j:=k) BS Y Y Y (λw' hs=>(rA hs c)) Y (lS o)) (Tk 3 Y Y (HI CJ Y Y at8 Y) (tK 3 [4,5] Y ?_));obtain⟨y,f⟩:=sI b k;obtain⟨p,q,r⟩:=AC (n:=1) rfl d f;obtain rfl:p=[.int .i64 y]:=r;refine Tk 6 Y Y (AJ (l:=b) (j:=k) BS Y Y Y (λw' hs=>(rA hs d)) Y (lS f)) (Tk 7 Y Y (HI CJ Y Y q Y) (tR 8 Y Y (tE (Xt (Cn Y (λs=>?_) (λs=>?_))))))
    ·refine Sr (Pe Y (Ct (Xq (Xr (Xr (Xq (Xr (Rb Y Y ?_))))))));simp;intro e;subst e;simp_all
    ·refine Ck (Xb (Xt (Cr (p1 Y (ad (k+1) Y (Pe Y (λac w' hf hs=>⟨_,?_,k+1,?_,?_,Y,hf.wk Y,hs⟩)))))))
     ·omega
     ·omega
     ·exact DF hi ‹_› ‹_› (by simp_all)
   ·refine Cx (Xx (Xx (Xe (Xt (Sr (Pe Y (Ct (Rb Y Y ?_))))))));simp;exact C7 (by omega) (λi h=>hi i (by omega))
theorem E7{w:World}{x:Int}{least:Int}{a:Int}:Cy 90 [(iv x),(iv least),(iv a)] w (Val w (.bool (GO x least a))):=by
 refine enter 15 Tryz.func90 Y Y Y (Sr (Pe Y (Sr (P3 Y Y Y (p1 Y (EY 10 Y Y (λb=>?_) (λb=>?_)))))))
 ·refine P3 Y Y Y (P2 Y Y (Dx (Ct (Rb Y Y ?_))));show((decide ((x:Int)<=a)):Bool)=_;simp_all[GO];try omega
 ·refine n1 Y (n1 Y (n1 Y (P2 Y Y (Dx (Ct (Rb Y Y ?_))))));simp_all[GO];try omega
end Go.Sy.Bel1
