/-
  Contracts of functions of the program, walked (printed by a program of ours).
  Conditions: those that each theorem states.
-/
import Derived.Test.YtfmjgnjaoihefaaGreatDoorFct
import Derived.Test.YtfmjgnjaoihefaaGreatDoorEv2
set_option linter.unusedVariables false
set_option maxRecDepth 20000
namespace Go.Sy.Ev3
open Go Go.RowKit Go.Proofs Go.Sy
open Go.Sy.Bel1 Go.Sy.Ev1 Go.Sy.Ev2
theorem UE{w:World}{g:Value}{a:(List ByteArray)}{m:Value}{b:(List ByteArray)}(c:Gd.rd w [g] a)(d:Gd.rd w [m] b):Cy 175 [g,m] w (Val w (.bool (decide (a=b)))):=by
 have z:=rM c;have a0:=rM d;refine enter 26 Tryz.func175 Y Y Y (Sr (Pe Y (Cq (Sr (p1 Y (dl AU Y (AE c) (p1 Y (dl AU Y (AE d) (Pe Y (Cn Y (λt=>?_) (λt=>?_)))))))))))
 ·refine Sr (Pe Y (Ct (Xr (Rb Y Y ?_))));simp;intro e;subst e;simp_all
 ·refine Sk (Cq (Sr (p1 Y (dl AU Y (AE c) (Pe Y (Cb (Cl (λm_ ac w'=>∃(k:Nat),(k<=a.length)/\(∀i,i<k->a[i]?=b[i]?)/\m_=a.length-k/\Fits ac 26 [(0,g),(1,m),(12,(nv a.length)),(13,(nv k))]/\St w ([]) w') ?_ ?_)))))))
  ·refine λac w' hf hs=>⟨_,0,?_,?_,Y,hf.wk Y,hs⟩
   ·omega
   ·intro i hi;omega
  ·rintro m_ ac w' ⟨k,hk,hi,rfl,hf,hs⟩;refine D.use ?_ hf hs;clear hf hs ac w';refine Sr (Pe Y (Cq (Cd Y (λu=>?_) (λu=>?_))))
   ·refine Sk (Cq (Cb (Sr (P2 Y Y (Dx (Cq (A0 mixed [] (by kernel_rfl) (tK 7 [0,1] Y ?_))))))));obtain⟨x5,o⟩:=sI a k;obtain⟨v,at8,x⟩:=AC (n:=1) rfl c o;obtain rfl:v=[.string x5]:=x;refine Tk 2 Y Y (AJ (l:=a) (j:=k) AU Y Y Y (λw' hs=>(rA hs c)) Y (lS o)) (Tk 3 Y Y (HI BK Y Y at8 Y) (tK 3 [4,5] Y ?_));obtain⟨y,f⟩:=sI b k;obtain⟨p,q,r⟩:=AC (n:=1) rfl d f;obtain rfl:p=[.string y]:=r;refine Tk 6 Y Y (AJ (l:=b) (j:=k) AU Y Y Y (λw' hs=>(rA hs d)) Y (lS f)) (Tk 7 Y Y (HI BK Y Y q Y) (Tk 8 Y Y (E5 Y Y Y) (tE (Xt (R8 Y (λs=>?_) (λs=>?_))))))
    ·refine Sr (Pe Y (Ct (Xq (Xr (Xr (Xq (Xr (Rb Y Y ?_))))))));simp;intro e;subst e;simp_all
    ·refine Ck (Xb (Xt (Cr (ad (k+1) Y (Pe Y (λac w' hf hs=>⟨_,?_,k+1,?_,?_,Y,hf.wk Y,hs⟩))))))
     ·omega
     ·omega
     ·refine DF hi ‹_› ‹_› ?_;simp_all
   ·refine Cx (Xx (Xx (Xe (Xt (Sr (Pe Y (Ct (Rb Y Y ?_))))))));simp;exact C7 (by omega) (λi h=>hi i (by omega))
theorem IZ{w:World}{g:Value}{a:(List Int)}{m:Value}{b:(List Int)}(c:Gd.rd w [g] a)(d:Gd.rd w [m] b):Cy 162 [g,m] w (Val w (.bool (decide (a=b)))):=by
 have z:=rM c;have a0:=rM d;refine enter 26 Tryz.func162 Y Y Y (Sr (Pe Y (Cq (Sr (p1 Y (dl BS Y (AE c) (p1 Y (dl BS Y (AE d) (Pe Y (Cn Y (λt=>?_) (λt=>?_)))))))))))
 ·refine Sr (Pe Y (Ct (Xr (Rb Y Y ?_))));simp;intro e;subst e;simp_all
 ·refine Sk (Cq (Sr (p1 Y (dl BS Y (AE c) (Pe Y (Cb (Cl (λm_ ac w'=>∃(k:Nat),(k<=a.length)/\(∀i,i<k->a[i]?=b[i]?)/\m_=a.length-k/\Fits ac 26 [(0,g),(1,m),(12,(nv a.length)),(13,(nv k))]/\St w ([]) w') ?_ ?_)))))))
  ·refine λac w' hf hs=>⟨_,0,?_,?_,Y,hf.wk Y,hs⟩
   ·omega
   ·intro i hi;omega
  ·rintro m_ ac w' ⟨k,hk,hi,rfl,hf,hs⟩;refine D.use ?_ hf hs;clear hf hs ac w';refine Sr (Pe Y (Cq (Cd Y (λu=>?_) (λu=>?_))))
   ·refine Sk (Cq (Cb (Sr (P2 Y Y (Dx (Cq (A0 mixed [] (by kernel_rfl) (tK 7 [0,1] Y ?_))))))));obtain⟨x5,o⟩:=sI a k;obtain⟨v,at8,x⟩:=AC (n:=1) rfl c o;obtain rfl:v=[.int .i64 x5]:=x;refine Tk 2 Y Y (AJ (l:=a) (j:=k) BS Y Y Y (λw' hs=>(rA hs c)) Y (lS o)) (Tk 3 Y Y (HI CJ Y Y at8 Y) (tK 3 [4,5] Y ?_));obtain⟨y,f⟩:=sI b k;obtain⟨p,q,r⟩:=AC (n:=1) rfl d f;obtain rfl:p=[.int .i64 y]:=r;refine Tk 6 Y Y (AJ (l:=b) (j:=k) BS Y Y Y (λw' hs=>(rA hs d)) Y (lS f)) (Tk 7 Y Y (HI CJ Y Y q Y) (tR 8 Y Y (tE (Xt (Cn Y (λs=>?_) (λs=>?_))))))
    ·refine Sr (Pe Y (Ct (Xq (Xr (Xr (Xq (Xr (Rb Y Y ?_))))))));simp;intro e;subst e;simp_all
    ·refine Ck (Xb (Xt (Cr (ad (k+1) Y (Pe Y (λac w' hf hs=>⟨_,?_,k+1,?_,?_,Y,hf.wk Y,hs⟩))))))
     ·omega
     ·omega
     ·refine DF hi ‹_› ‹_› ?_;simp_all
   ·refine Cx (Xx (Xx (Xe (Xt (Sr (Pe Y (Ct (Rb Y Y ?_))))))));simp;exact C7 (by omega) (λi h=>hi i (by omega))
theorem RI{w:World}{g:Value}{a:(List ByteArray)}{m:Value}{b:(List ByteArray)}(c:Gd.rd w [g] a)(d:Gd.rd w [m] b):Cy 182 [g,m] w (Val w (.bool (decide (a=b)))):=by
 have z:=rM c;have a0:=rM d;refine enter 26 Tryz.func182 Y Y Y (Sr (Pe Y (Cq (Sr (p1 Y (dl AU Y (AE c) (p1 Y (dl AU Y (AE d) (Pe Y (Cn Y (λt=>?_) (λt=>?_)))))))))))
 ·refine Sr (Pe Y (Ct (Xr (Rb Y Y ?_))));simp;intro e;subst e;simp_all
 ·refine Sk (Cq (Sr (Pe Y (Cb (Cl (λm_ ac w'=>∃(k:Nat),(k<=a.length)/\(∀i,i<k->a[i]?=b[i]?)/\m_=a.length-k/\Fits ac 26 [(0,g),(1,m),(5,(nv k))]/\St w ([]) w') ?_ ?_)))))
  ·refine λac w' hf hs=>⟨_,0,?_,?_,Y,hf.wk Y,hs⟩
   ·omega
   ·intro i hi;omega
  ·rintro m_ ac w' ⟨k,hk,hi,rfl,hf,hs⟩;refine D.use ?_ hf hs;clear hf hs ac w';refine Cq (Sr (P2 Y Y (dl AU Y (AE c) (Pe Y (Cd Y (λu=>?_) (λu=>?_))))))
   ·refine Sk (Cq (Cb (Cq (A0 mixed [] (by kernel_rfl) (tK 7 [0,1] Y ?_)))));obtain⟨x5,o⟩:=sI a k;obtain⟨v,at8,x⟩:=AC (n:=1) rfl c o;obtain rfl:v=[.string x5]:=x;refine Tk 2 Y Y (AJ (l:=a) (j:=k) AU Y Y Y (λw' hs=>(rA hs c)) Y (lS o)) (Tk 3 Y Y (HI BK Y Y at8 Y) (tK 3 [4,5] Y ?_));obtain⟨y,f⟩:=sI b k;obtain⟨p,q,r⟩:=AC (n:=1) rfl d f;obtain rfl:p=[.string y]:=r;refine Tk 6 Y Y (AJ (l:=b) (j:=k) AU Y Y Y (λw' hs=>(rA hs d)) Y (lS f)) (Tk 7 Y Y (HI BK Y Y q Y) (Tk 8 Y Y (E5 Y Y Y) (tE (Xt (R8 Y (λs=>?_) (λs=>?_))))))
    ·refine Sr (Pe Y (Ct (Xq (Xr (Xr (Xq (Xr (Rb Y Y ?_))))))));simp;intro e;subst e;simp_all
    ·refine Ck (Xb (Xt (Cr (p1 Y (ad (k+1) Y (Pe Y (λac w' hf hs=>⟨_,?_,k+1,?_,?_,Y,hf.wk Y,hs⟩)))))))
     ·omega
     ·omega
     ·refine DF hi ‹_› ‹_› ?_;simp_all
   ·refine Cx (Xx (Xx (Xe (Xt (Sr (Pe Y (Ct (Rb Y Y ?_))))))));simp;exact C7 (by omega) (λi h=>hi i (by omega))
theorem MP{w:World}{g:Value}{a:(List Int)}{m:Value}{b:(List Int)}(c:Gd.rd w [g] a)(d:Gd.rd w [m] b):Cy 149 [g,m] w (Val w (.bool (decide (a=b)))):=by
 have z:=rM c;have a0:=rM d;refine enter 26 Tryz.func149 Y Y Y (Sr (Pe Y (Cq (Sr (p1 Y (dl BS Y (AE c) (p1 Y (dl BS Y (AE d) (Pe Y (Cn Y (λt=>?_) (λt=>?_)))))))))))
 ·refine Sr (Pe Y (Ct (Xr (Rb Y Y ?_))));simp;intro e;subst e;simp_all
 ·refine Sk (Cq (Sr (Pe Y (Cb (Cl (λm_ ac w'=>∃(k:Nat),(k<=a.length)/\(∀i,i<k->a[i]?=b[i]?)/\m_=a.length-k/\Fits ac 26 [(0,g),(1,m),(5,(nv k))]/\St w ([]) w') ?_ ?_)))))
  ·refine λac w' hf hs=>⟨_,0,?_,?_,Y,hf.wk Y,hs⟩
   ·omega
   ·intro i hi;omega
  ·rintro m_ ac w' ⟨k,hk,hi,rfl,hf,hs⟩;refine D.use ?_ hf hs;clear hf hs ac w';refine Cq (Sr (P2 Y Y (dl BS Y (AE c) (Pe Y (Cd Y (λu=>?_) (λu=>?_))))))
   ·refine Sk (Cq (Cb (Cq (A0 mixed [] (by kernel_rfl) (tK 7 [0,1] Y ?_)))));obtain⟨x5,o⟩:=sI a k;obtain⟨v,at8,x⟩:=AC (n:=1) rfl c o;obtain rfl:v=[.int .i64 x5]:=x;refine Tk 2 Y Y (AJ (l:=a) (j:=k) BS Y Y Y (λw' hs=>(rA hs c)) Y (lS o)) (Tk 3 Y Y (HI CJ Y Y at8 Y) (tK 3 [4,5] Y ?_));obtain⟨y,f⟩:=sI b k;obtain⟨p,q,r⟩:=AC (n:=1) rfl d f;obtain rfl:p=[.int .i64 y]:=r;refine Tk 6 Y Y (AJ (l:=b) (j:=k) BS Y Y Y (λw' hs=>(rA hs d)) Y (lS f)) (Tk 7 Y Y (HI CJ Y Y q Y) (tR 8 Y Y (tE (Xt (Cn Y (λs=>?_) (λs=>?_))))))
    ·refine Sr (Pe Y (Ct (Xq (Xr (Xr (Xq (Xr (Rb Y Y ?_))))))));simp;intro e;subst e;simp_all
    ·refine Ck (Xb (Xt (Cr (p1 Y (ad (k+1) Y (Pe Y (λac w' hf hs=>⟨_,?_,k+1,?_,?_,Y,hf.wk Y,hs⟩)))))))
     ·omega
     ·omega
     ·refine DF hi ‹_› ‹_› ?_;simp_all
   ·refine Cx (Xx (Xx (Xe (Xt (Sr (Pe Y (Ct (Rb Y Y ?_))))))));simp;exact C7 (by omega) (λi h=>hi i (by omega))
theorem OU{w:World}{c:List Value}{a:Fact}{d:List Value}{b:Fact}(g:Gd.rd w c a)(h:Gd.rd w d b):Cy 116 [(.agg c.toArray),(.agg d.toArray)] w (Val w (.bool (decide (a=b)))):=by
 obtain⟨j,rfl,e⟩:=AS g;have k:=rM e;obtain⟨l,rfl,f⟩:=AS h;have m:=rM f;refine enter 17 Tryz.func116 Y Y Y (Sr (bX Y λg7=>?_));refine bX Y λg8=>?_
 refine Pe Y (Dh ([bx g8 [(.string b.Rel),l],bx g7 [(.string a.Rel),j]]) Y (Sr (fl 1 EH BK Y (fl 0 EH BK Y (q1 Y (DO Y Y Y) (p1 Y (EY 10 Y Y (λi=>?_) (λi=>?_))))))))
 ·refine fl 1 BU B5 Y (fl 0 BU B5 Y (qv A3m Y (λw' hs=>(UE (rA hs e) (rA hs f))) (P2 Y Y (Dx (Ct (Rb Y Y ?_))))));show((decide (a.Args=b.Args)):Bool)=_
  cases a;cases b;simp_all
 ·refine n1 Y (n1 Y (n1 Y (n1 Y (n1 Y (P2 Y Y (Dx (Ct (Rb Y Y ?_))))))))
  cases a;cases b;simp_all
theorem cJ{w:World}{c:List Value}{a:Fact}{d:List Value}{b:Fact}(g:Gd.rd w c a)(h:Gd.rd w d b):Cy 128 [(.agg c.toArray),(.agg d.toArray)] w (Val w (.bool (decide (a=b)))):=by
 obtain⟨j,rfl,e⟩:=AS g;have k:=rM e;obtain⟨l,rfl,f⟩:=AS h;have m:=rM f;refine enter 17 Tryz.func128 Y Y Y (Sr (bX Y λg7=>?_));refine bX Y λg8=>?_
 refine Pe Y (Dh ([bx g8 [(.string b.Rel),l],bx g7 [(.string a.Rel),j]]) Y (Sr (fl 1 EH BK Y (fl 0 EH BK Y (q1 Y (DO Y Y Y) (p1 Y (EY 10 Y Y (λi=>?_) (λi=>?_))))))))
 ·refine fl 1 BU B5 Y (fl 0 BU B5 Y (qv A3n Y (λw' hs=>(RI (rA hs e) (rA hs f))) (P2 Y Y (Dx (Ct (Rb Y Y ?_))))));show((decide (a.Args=b.Args)):Bool)=_
  cases a;cases b;simp_all
 ·refine n1 Y (n1 Y (n1 Y (n1 Y (n1 Y (P2 Y Y (Dx (Ct (Rb Y Y ?_))))))))
  cases a;cases b;simp_all
theorem MQ{w:World}{c:List Value}{a:Firing}{d:List Value}{b:Firing}(g:Gd.rd w c a)(h:Gd.rd w d b):Cy 106 [(.agg c.toArray),(.agg d.toArray)] w (Val w (.bool (decide (a=b)))):=by
 obtain⟨j,rfl,e⟩:=BQ g;have k:=rM e;obtain⟨l,rfl,f⟩:=BQ h;have m:=rM f;refine enter 17 Tryz.func106 Y Y Y (Sr (bX Y λg7=>?_));refine bX Y λg8=>?_
 refine Pe Y (Dh ([bx g8 [(.string b.Rule),l],bx g7 [(.string a.Rule),j]]) Y (Sr (fl 1 IK BK Y (fl 0 IK BK Y (q1 Y (DO Y Y Y) (p1 Y (EY 10 Y Y (λi=>?_) (λi=>?_))))))))
 ·refine fl 1 HC H7 Y (fl 0 HC H7 Y (qv qA Y (λw' hs=>(IZ (rA hs e) (rA hs f))) (P2 Y Y (Dx (Ct (Rb Y Y ?_))))));show((decide (a.Times=b.Times)):Bool)=_
  cases a;cases b;simp_all
 ·refine n1 Y (n1 Y (n1 Y (n1 Y (n1 Y (P2 Y Y (Dx (Ct (Rb Y Y ?_))))))))
  cases a;cases b;simp_all
end Go.Sy.Ev3
