/-
  Contracts of functions of the program, walked (printed by a program of ours).
  Conditions: those that each theorem states.
-/
import Derived.Test.YtbnpgdcpbmaebaaGreatDoorFct
import Derived.Test.YtbnpgdcpbmaebaaGreatDoorEng
set_option linter.unusedVariables false
set_option maxRecDepth 20000
namespace Go.Sy.Ev3
open Go Go.RowKit Go.Proofs Go.Sy
open Go.Sy.Bel1 Go.Sy.Ev1
theorem UE{w:World}{g:Value}{a:(List ByteArray)}{m:Value}{b:(List ByteArray)}(c:Gd.rd w [g] a)(d:Gd.rd w [m] b):Cy 191 [g,m] w (Val w (.bool (decide (a=b)))):=by
 have z:=rM c;have a0:=rM d;refine enter 26 Tryz.func191 Y Y Y (Sr (Pe Y (Cq (Sr (p1 Y (dl C1D Y (AE c) (p1 Y (dl C1D Y (AE d) (Pe Y (Cn Y (λt=>?_) (λt=>?_)))))))))))
 ·refine Sr (Pe Y (Ct (Xr (Rb Y Y ?_))));simp;intro e;subst e;simp_all
 ·refine Sk (Cq (Sr (p1 Y (dl C1D Y (AE c) (Pe Y (Cb (Cl (λm_ ac w'=>∃(k:Nat),(k<=a.length)/\(∀i,i<k->a[i]?=b[i]?)/\m_=a.length-k/\Fits ac 26 [(0,g),(1,m),(12,(nv a.length)),(13,(nv k))]/\St w ([]) w') ?_ ?_)))))))
  ·refine λac w' hf hs=>⟨_,0,?_,?_,Y,hf.wk Y,hs⟩
   ·omega
   ·intro i hi;omega
  ·rintro m_ ac w' ⟨k,hk,hi,rfl,hf,hs⟩;refine D.use ?_ hf hs;clear hf hs ac w';refine Sr (Pe Y (Cq (Cd Y (λu=>?_) (λu=>?_))))
   ·refine Sk (Cq (Cb (Sr (P2 Y Y (Dx (Cq (A0 mixed [] (by kernel_rfl) (tK 7 [0,1] Y ?_))))))));obtain⟨x5,o⟩:=sI a k;obtain⟨v,at8,x⟩:=AC (n:=1) rfl c o;obtain rfl:v=[.string x5]:=x;refine Tk 2 Y Y (AJ (l:=a) (j:=k) C1D Y Y Y (λw' hs=>(rA hs c)) Y (lS o)) (Tk 3 Y Y (HI BK Y Y at8 Y) (tK 3 [4,5] Y ?_));obtain⟨y,f⟩:=sI b k;obtain⟨p,q,r⟩:=AC (n:=1) rfl d f;obtain rfl:p=[.string y]:=r;refine Tk 6 Y Y (AJ (l:=b) (j:=k) C1D Y Y Y (λw' hs=>(rA hs d)) Y (lS f)) (Tk 7 Y Y (HI BK Y Y q Y) (Tk 8 Y Y (E5 Y Y Y) (tE (Xt (R8 Y (λs=>?_) (λs=>?_))))))
    ·refine Sr (Pe Y (Ct (Xq (Xr (Xr (Xq (Xr (Rb Y Y ?_))))))));simp;intro e;subst e;simp_all
    ·refine Ck (Xb (Xt (Cr (ad (k+1) Y (Pe Y (λac w' hf hs=>⟨_,?_,k+1,?_,?_,Y,hf.wk Y,hs⟩))))))
     ·omega
     ·omega
     ·refine DF hi ‹_› ‹_› ?_;simp_all
   ·refine Cx (Xx (Xx (Xe (Xt (Sr (Pe Y (Ct (Rb Y Y ?_))))))));simp;exact C7 (by omega) (λi h=>hi i (by omega))
theorem IZ{w:World}{g:Value}{a:(List Int)}{m:Value}{b:(List Int)}(c:Gd.rd w [g] a)(d:Gd.rd w [m] b):Cy 90 [g,m] w (Val w (.bool (decide (a=b)))):=by
 have z:=rM c;have a0:=rM d;refine enter 26 Tryz.func90 Y Y Y (Sr (Pe Y (Cq (Sr (p1 Y (dl AU Y (AE c) (p1 Y (dl AU Y (AE d) (Pe Y (Cn Y (λt=>?_) (λt=>?_)))))))))))
 ·refine Sr (Pe Y (Ct (Xr (Rb Y Y ?_))));simp;intro e;subst e;simp_all
 ·refine Sk (Cq (Sr (p1 Y (dl AU Y (AE c) (Pe Y (Cb (Cl (λm_ ac w'=>∃(k:Nat),(k<=a.length)/\(∀i,i<k->a[i]?=b[i]?)/\m_=a.length-k/\Fits ac 26 [(0,g),(1,m),(12,(nv a.length)),(13,(nv k))]/\St w ([]) w') ?_ ?_)))))))
  ·refine λac w' hf hs=>⟨_,0,?_,?_,Y,hf.wk Y,hs⟩
   ·omega
   ·intro i hi;omega
  ·rintro m_ ac w' ⟨k,hk,hi,rfl,hf,hs⟩;refine D.use ?_ hf hs;clear hf hs ac w';refine Sr (Pe Y (Cq (Cd Y (λu=>?_) (λu=>?_))))
   ·refine Sk (Cq (Cb (Sr (P2 Y Y (Dx (Cq (A0 mixed [] (by kernel_rfl) (tK 7 [0,1] Y ?_))))))));obtain⟨x5,o⟩:=sI a k;obtain⟨v,at8,x⟩:=AC (n:=1) rfl c o;obtain rfl:v=[.int .i64 x5]:=x;refine Tk 2 Y Y (AJ (l:=a) (j:=k) AU Y Y Y (λw' hs=>(rA hs c)) Y (lS o)) (Tk 3 Y Y (HI CJ Y Y at8 Y) (tK 3 [4,5] Y ?_));obtain⟨y,f⟩:=sI b k;obtain⟨p,q,r⟩:=AC (n:=1) rfl d f;obtain rfl:p=[.int .i64 y]:=r;refine Tk 6 Y Y (AJ (l:=b) (j:=k) AU Y Y Y (λw' hs=>(rA hs d)) Y (lS f)) (Tk 7 Y Y (HI CJ Y Y q Y) (tR 8 Y Y (tE (Xt (Cn Y (λs=>?_) (λs=>?_))))))
    ·refine Sr (Pe Y (Ct (Xq (Xr (Xr (Xq (Xr (Rb Y Y ?_))))))));simp;intro e;subst e;simp_all
    ·refine Ck (Xb (Xt (Cr (ad (k+1) Y (Pe Y (λac w' hf hs=>⟨_,?_,k+1,?_,?_,Y,hf.wk Y,hs⟩))))))
     ·omega
     ·omega
     ·refine DF hi ‹_› ‹_› ?_;simp_all
   ·refine Cx (Xx (Xx (Xe (Xt (Sr (Pe Y (Ct (Rb Y Y ?_))))))));simp;exact C7 (by omega) (λi h=>hi i (by omega))
theorem RI{w:World}{g:Value}{a:(List ByteArray)}{m:Value}{b:(List ByteArray)}(c:Gd.rd w [g] a)(d:Gd.rd w [m] b):Cy 139 [g,m] w (Val w (.bool (decide (a=b)))):=by
 have z:=rM c;have a0:=rM d;refine enter 26 Tryz.func139 Y Y Y (Sr (Pe Y (Cq (Sr (p1 Y (dl C1D Y (AE c) (p1 Y (dl C1D Y (AE d) (Pe Y (Cn Y (λt=>?_) (λt=>?_)))))))))))
 ·refine Sr (Pe Y (Ct (Xr (Rb Y Y ?_))));simp;intro e;subst e;simp_all
 ·refine Sk (Cq (Sr (Pe Y (Cb (Cl (λm_ ac w'=>∃(k:Nat),(k<=a.length)/\(∀i,i<k->a[i]?=b[i]?)/\m_=a.length-k/\Fits ac 26 [(0,g),(1,m),(5,(nv k))]/\St w ([]) w') ?_ ?_)))))
  ·refine λac w' hf hs=>⟨_,0,?_,?_,Y,hf.wk Y,hs⟩
   ·omega
   ·intro i hi;omega
  ·rintro m_ ac w' ⟨k,hk,hi,rfl,hf,hs⟩;refine D.use ?_ hf hs;clear hf hs ac w';refine Cq (Sr (P2 Y Y (dl C1D Y (AE c) (Pe Y (Cd Y (λu=>?_) (λu=>?_))))))
   ·refine Sk (Cq (Cb (Cq (A0 mixed [] (by kernel_rfl) (tK 7 [0,1] Y ?_)))));obtain⟨x5,o⟩:=sI a k;obtain⟨v,at8,x⟩:=AC (n:=1) rfl c o;obtain rfl:v=[.string x5]:=x;refine Tk 2 Y Y (AJ (l:=a) (j:=k) C1D Y Y Y (λw' hs=>(rA hs c)) Y (lS o)) (Tk 3 Y Y (HI BK Y Y at8 Y) (tK 3 [4,5] Y ?_));obtain⟨y,f⟩:=sI b k;obtain⟨p,q,r⟩:=AC (n:=1) rfl d f;obtain rfl:p=[.string y]:=r;refine Tk 6 Y Y (AJ (l:=b) (j:=k) C1D Y Y Y (λw' hs=>(rA hs d)) Y (lS f)) (Tk 7 Y Y (HI BK Y Y q Y) (Tk 8 Y Y (E5 Y Y Y) (tE (Xt (R8 Y (λs=>?_) (λs=>?_))))))
    ·refine Sr (Pe Y (Ct (Xq (Xr (Xr (Xq (Xr (Rb Y Y ?_))))))));simp;intro e;subst e;simp_all
    ·refine Ck (Xb (Xt (Cr (p1 Y (ad (k+1) Y (Pe Y (λac w' hf hs=>⟨_,?_,k+1,?_,?_,Y,hf.wk Y,hs⟩)))))))
     ·omega
     ·omega
     ·refine DF hi ‹_› ‹_› ?_;simp_all
   ·refine Cx (Xx (Xx (Xe (Xt (Sr (Pe Y (Ct (Rb Y Y ?_))))))));simp;exact C7 (by omega) (λi h=>hi i (by omega))
theorem MP{w:World}{g:Value}{a:(List Int)}{m:Value}{b:(List Int)}(c:Gd.rd w [g] a)(d:Gd.rd w [m] b):Cy 73 [g,m] w (Val w (.bool (decide (a=b)))):=by
 have z:=rM c;have a0:=rM d;refine enter 26 Tryz.func73 Y Y Y (Sr (Pe Y (Cq (Sr (p1 Y (dl AU Y (AE c) (p1 Y (dl AU Y (AE d) (Pe Y (Cn Y (λt=>?_) (λt=>?_)))))))))))
 ·refine Sr (Pe Y (Ct (Xr (Rb Y Y ?_))));simp;intro e;subst e;simp_all
 ·refine Sk (Cq (Sr (Pe Y (Cb (Cl (λm_ ac w'=>∃(k:Nat),(k<=a.length)/\(∀i,i<k->a[i]?=b[i]?)/\m_=a.length-k/\Fits ac 26 [(0,g),(1,m),(5,(nv k))]/\St w ([]) w') ?_ ?_)))))
  ·refine λac w' hf hs=>⟨_,0,?_,?_,Y,hf.wk Y,hs⟩
   ·omega
   ·intro i hi;omega
  ·rintro m_ ac w' ⟨k,hk,hi,rfl,hf,hs⟩;refine D.use ?_ hf hs;clear hf hs ac w';refine Cq (Sr (P2 Y Y (dl AU Y (AE c) (Pe Y (Cd Y (λu=>?_) (λu=>?_))))))
   ·refine Sk (Cq (Cb (Cq (A0 mixed [] (by kernel_rfl) (tK 7 [0,1] Y ?_)))));obtain⟨x5,o⟩:=sI a k;obtain⟨v,at8,x⟩:=AC (n:=1) rfl c o;obtain rfl:v=[.int .i64 x5]:=x;refine Tk 2 Y Y (AJ (l:=a) (j:=k) AU Y Y Y (λw' hs=>(rA hs c)) Y (lS o)) (Tk 3 Y Y (HI CJ Y Y at8 Y) (tK 3 [4,5] Y ?_));obtain⟨y,f⟩:=sI b k;obtain⟨p,q,r⟩:=AC (n:=1) rfl d f;obtain rfl:p=[.int .i64 y]:=r;refine Tk 6 Y Y (AJ (l:=b) (j:=k) AU Y Y Y (λw' hs=>(rA hs d)) Y (lS f)) (Tk 7 Y Y (HI CJ Y Y q Y) (tR 8 Y Y (tE (Xt (Cn Y (λs=>?_) (λs=>?_))))))
    ·refine Sr (Pe Y (Ct (Xq (Xr (Xr (Xq (Xr (Rb Y Y ?_))))))));simp;intro e;subst e;simp_all
    ·refine Ck (Xb (Xt (Cr (p1 Y (ad (k+1) Y (Pe Y (λac w' hf hs=>⟨_,?_,k+1,?_,?_,Y,hf.wk Y,hs⟩)))))))
     ·omega
     ·omega
     ·refine DF hi ‹_› ‹_› ?_;simp_all
   ·refine Cx (Xx (Xx (Xe (Xt (Sr (Pe Y (Ct (Rb Y Y ?_))))))));simp;exact C7 (by omega) (λi h=>hi i (by omega))
theorem OU{w:World}{c:List Value}{a:Fact}{d:List Value}{b:Fact}(g:Gd.rd w c a)(h:Gd.rd w d b):Cy 133 [(.agg c.toArray),(.agg d.toArray)] w (Val w (.bool (decide (a=b)))):=by
 obtain⟨j,rfl,e⟩:=AS g;have k:=rM e;obtain⟨l,rfl,f⟩:=AS h;have m:=rM f;refine enter 17 Tryz.func133 Y Y Y (Sr (bX Y λg7=>?_));refine bX Y λg8=>?_
 refine Pe Y (Dh ([bx g8 [(.string b.Rel),l],bx g7 [(.string a.Rel),j]]) Y (Sr (fl 1 B5C BK Y (fl 0 B5C BK Y (q1 Y (DO Y Y Y) (p1 Y (EY 10 Y Y (λi=>?_) (λi=>?_))))))))
 ·refine fl 1 C1F C1G Y (fl 0 C1F C1G Y (qv A4N Y (λw' hs=>(UE (rA hs e) (rA hs f))) (P2 Y Y (Dx (Ct (Rb Y Y ?_))))));show((decide (a.Args=b.Args)):Bool)=_
  cases a;cases b;simp_all
 ·refine n1 Y (n1 Y (n1 Y (n1 Y (n1 Y (P2 Y Y (Dx (Ct (Rb Y Y ?_))))))))
  cases a;cases b;simp_all
theorem cJ{w:World}{c:List Value}{a:Fact}{d:List Value}{b:Fact}(g:Gd.rd w c a)(h:Gd.rd w d b):Cy 72 [(.agg c.toArray),(.agg d.toArray)] w (Val w (.bool (decide (a=b)))):=by
 obtain⟨j,rfl,e⟩:=AS g;have k:=rM e;obtain⟨l,rfl,f⟩:=AS h;have m:=rM f;refine enter 17 Tryz.func72 Y Y Y (Sr (bX Y λg7=>?_));refine bX Y λg8=>?_
 refine Pe Y (Dh ([bx g8 [(.string b.Rel),l],bx g7 [(.string a.Rel),j]]) Y (Sr (fl 1 B5C BK Y (fl 0 B5C BK Y (q1 Y (DO Y Y Y) (p1 Y (EY 10 Y Y (λi=>?_) (λi=>?_))))))))
 ·refine fl 1 C1F C1G Y (fl 0 C1F C1G Y (qv A5A Y (λw' hs=>(RI (rA hs e) (rA hs f))) (P2 Y Y (Dx (Ct (Rb Y Y ?_))))));show((decide (a.Args=b.Args)):Bool)=_
  cases a;cases b;simp_all
 ·refine n1 Y (n1 Y (n1 Y (n1 Y (n1 Y (P2 Y Y (Dx (Ct (Rb Y Y ?_))))))))
  cases a;cases b;simp_all
theorem C2C{w:World}{c:List Value}{a:Pattern}{d:List Value}{b:Pattern}(g:Gd.rd w c a)(h:Gd.rd w d b):Cy 138 [(.agg c.toArray),(.agg d.toArray)] w (Val w (.bool (decide (a=b)))):=by
 obtain⟨j,rfl,e⟩:=B8 g;have k:=rM e;obtain⟨l,rfl,f⟩:=B8 h;have m:=rM f;refine enter 17 Tryz.func138 Y Y Y (Sr (bX Y λg7=>?_));refine bX Y λg8=>?_
 refine Pe Y (Dh ([bx g8 [(.string b.Rel),l],bx g7 [(.string a.Rel),j]]) Y (Sr (fl 1 B5Y BK Y (fl 0 B5Y BK Y (q1 Y (DO Y Y Y) (p1 Y (EY 10 Y Y (λi=>?_) (λi=>?_))))))))
 ·refine fl 1 C1H C1G Y (fl 0 C1H C1G Y (qv A5A Y (λw' hs=>(RI (rA hs e) (rA hs f))) (P2 Y Y (Dx (Ct (Rb Y Y ?_))))));show((decide (a.Args=b.Args)):Bool)=_
  cases a;cases b;simp_all
 ·refine n1 Y (n1 Y (n1 Y (n1 Y (n1 Y (P2 Y Y (Dx (Ct (Rb Y Y ?_))))))))
  cases a;cases b;simp_all
theorem C2R{w:World}{c:List Value}{a:Cond}{d:List Value}{b:Cond}(e:Gd.rd w c a)(f:Gd.rd w d b):Cy 137 [(.agg c.toArray),(.agg d.toArray)] w (Val w (.bool (decide (a=b)))):=by
 obtain⟨n,rfl,i⟩:=A8 e;have p:=rM i;have j:=AK e;obtain⟨o,rfl,k⟩:=A8 f;have r:=rM k;have l:=AK f;refine enter 31 Tryz.func137 Y Y Y (Sr (bX Y λg9=>?_));refine bX Y λg10=>?_
 refine Pe Y (Dh ([bx g10 [(iv b.Kind),(.string b.Pattern.Rel),o,(.string b.Left),(.string b.Right)],bx g9 [(iv a.Kind),(.string a.Pattern.Rel),n,(.string a.Left),(.string a.Right)]]) Y (Sr (fl 1 B4h CJ Y (fl 0 B4h CJ Y (P2 Y Y (oV 10 Y Y (λg=>?_) (λg=>?_)))))))
 ·refine q1 Y (Db C1K Y Y (q:=1) Y) (q1 Y (H2 (es:=[(.string a.Pattern.Rel),n]) 1 B4a Y Y Y Y) (q1 Y (Db C1K Y Y (q:=1) Y) (q1 Y (H2 (es:=[(.string b.Pattern.Rel),o]) 0 B4a Y Y Y Y) (qv A4z Y (λw' hs=>(C2C (rA hs j) (rA hs l))) (P2 Y Y (gs 17 Y Y (λm=>?_) (λm=>?_)))))))
  ·refine fl 1 B4z BK Y (fl 0 B4z BK Y (q1 Y (DO Y Y Y) (P2 Y Y (EY 24 Y Y (λh=>?_) (λh=>?_)))))
   ·refine fl 1 B4x BK Y (fl 0 B4x BK Y (q1 Y (DO Y Y Y) (P2 Y Y (Dx (Ct (Rb Y Y ?_))))));show((decide ((a.Right:ByteArray)=b.Right)):Bool)=_
    cases a;cases b;simp_all
   ·refine n1 Y (n1 Y (n1 Y (n1 Y (n1 Y (P2 Y Y (Dx (Ct (Rb Y Y ?_))))))))
    cases a;cases b;simp_all
  ·refine n1 Y (n1 Y (n1 Y (n1 Y (n1 Y (P2 Y Y (n1 Y (n1 Y (n1 Y (n1 Y (n1 Y (P2 Y Y (Dx (Ct (Rb Y Y ?_))))))))))))))
   cases a;cases b;simp_all
 ·refine n1 Y (n1 Y (n1 Y (n1 Y (n1 Y (P2 Y Y (n1 Y (n1 Y (n1 Y (n1 Y (n1 Y (P2 Y Y (n1 Y (n1 Y (n1 Y (n1 Y (n1 Y (P2 Y Y (Dx (Ct (Rb Y Y ?_))))))))))))))))))))
  cases a;cases b;simp_all
theorem MQ{w:World}{c:List Value}{a:Firing}{d:List Value}{b:Firing}(g:Gd.rd w c a)(h:Gd.rd w d b):Cy 131 [(.agg c.toArray),(.agg d.toArray)] w (Val w (.bool (decide (a=b)))):=by
 obtain⟨j,rfl,e⟩:=BQ g;have k:=rM e;obtain⟨l,rfl,f⟩:=BQ h;have m:=rM f;refine enter 17 Tryz.func131 Y Y Y (Sr (bX Y λg7=>?_));refine bX Y λg8=>?_
 refine Pe Y (Dh ([bx g8 [(.string b.Rule),l],bx g7 [(.string a.Rule),j]]) Y (Sr (fl 1 C1r BK Y (fl 0 C1r BK Y (q1 Y (DO Y Y Y) (p1 Y (EY 10 Y Y (λi=>?_) (λi=>?_))))))))
 ·refine fl 1 C1l B5 Y (fl 0 C1l B5 Y (qv SP Y (λw' hs=>(IZ (rA hs e) (rA hs f))) (P2 Y Y (Dx (Ct (Rb Y Y ?_))))));show((decide (a.Times=b.Times)):Bool)=_
  cases a;cases b;simp_all
 ·refine n1 Y (n1 Y (n1 Y (n1 Y (n1 Y (P2 Y Y (Dx (Ct (Rb Y Y ?_))))))))
  cases a;cases b;simp_all
theorem A9K{w:World}{c:List Value}{a:Event}{d:List Value}{b:Event}(e:Gd.rd w c a)(f:Gd.rd w d b):Cy 74 [(.agg c.toArray),(.agg d.toArray)] w (Val w (.bool (decide (a=b)))):=by
 obtain⟨m,rfl,i⟩:=D2 e;have o:=rM i;have j:=CC e;obtain⟨n,rfl,k⟩:=D2 f;have p:=rM k;have l:=CC f;refine enter 24 Tryz.func74 Y Y Y (Sr (bX Y λg9=>?_));refine bX Y λg10=>?_
 refine Pe Y (Dh ([bx g10 [(iv b.Kind),(.string b.Rule),(.string b.Fact.Rel),n],bx g9 [(iv a.Kind),(.string a.Rule),(.string a.Fact.Rel),m]]) Y (Sr (fl 1 C1y CJ Y (fl 0 C1y CJ Y (P2 Y Y (oV 10 Y Y (λg=>?_) (λg=>?_)))))))
 ·refine fl 1 C1W BK Y (fl 0 C1W BK Y (q1 Y (DO Y Y Y) (P2 Y Y (EY 17 Y Y (λh=>?_) (λh=>?_)))))
  ·refine q1 Y (Db C1S Y Y (q:=2) Y) (q1 Y (H2 (es:=[(.string a.Fact.Rel),m]) 1 B4Z Y Y Y Y) (q1 Y (Db C1S Y Y (q:=2) Y) (q1 Y (H2 (es:=[(.string b.Fact.Rel),n]) 0 B4Z Y Y Y Y) (qv L6 Y (λw' hs=>(cJ (rA hs j) (rA hs l))) (P2 Y Y (Dx (Ct (Rb Y Y ?_))))))));show((decide (a.Fact=b.Fact)):Bool)=_
   cases a;cases b;simp_all
  ·refine n1 Y (n1 Y (n1 Y (n1 Y (n1 Y (P2 Y Y (Dx (Ct (Rb Y Y ?_))))))))
   cases a;cases b;simp_all
 ·refine n1 Y (n1 Y (n1 Y (n1 Y (n1 Y (P2 Y Y (n1 Y (n1 Y (n1 Y (n1 Y (n1 Y (P2 Y Y (Dx (Ct (Rb Y Y ?_))))))))))))))
  cases a;cases b;simp_all
set_option maxHeartbeats 4000000 in
theorem C2S{w:World}{a1:List Value}{a:Rule}{a2:List Value}{b:Rule}(am:Gd.rd w a1 a)(an:Gd.rd w a2 b):Cy 71 [(.agg a1.toArray),(.agg a2.toArray)] w (Val w (.bool (decide (a=b)))):=by
 obtain⟨u1,u3,rfl,g,d⟩:=BC am;have b2:=rM g;have b3:=rM d;obtain⟨u7,u9,rfl,t,c⟩:=BC an;have ao:=rM t;have ap:=rM c;refine enter 92 Tryz.func71 Y Y Y (Sr (bX Y λg13=>?_));refine bX Y λg14=>?_
 refine Pe Y (Dh ([bx g14 [(.string b.Name),(iv b.Priority),u7,u9],bx g13 [(.string a.Name),(iv a.Priority),u1,u3]]) Y (Cq (Sr (fl 1 pH BK Y (fl 0 pH BK Y (q1 Y (E5 Y Y Y) (p1 Y (A3C 12 Y Y (λa3=>?_) (λa3=>?_)))))))))
 ·refine n1 Y (n1 Y (n1 Y (n1 Y (n1 Y (P2 Y Y (n1 Y (n1 Y (n1 Y (n1 Y (n1 Y (n1 Y (n1 Y (P2 Y Y (n1 Y (n1 Y (n1 Y (n1 Y (n1 Y (n1 Y (n1 Y (Pe Y ?_)))))))))))))))))))));refine AH [2,3,36] Y (GF Y (Sr (Pe Y (Ct (Xr (Rb Y Y ?_))))));simp;intro e;subst e;simp_all
 ·refine fl 1 pJ CJ Y (fl 0 pJ CJ Y (P3 Y Y Y (gxn 19 Y Y (λa4=>?_) (λa4=>?_))))
  ·refine n1 Y (n1 Y (n1 Y (n1 Y (n1 Y (n1 Y (n1 Y (P2 Y Y (n1 Y (n1 Y (n1 Y (n1 Y (n1 Y (n1 Y (n1 Y (Pe Y (AH [2,3,36] Y (GF Y (Sr (p1 Y (De ?_))))))))))))))))))));refine Xt (Ct (Xr (Rb Y Y ?_)));simp;intro e;subst e;simp_all
  ·refine fl 1 A1T A3Z Y (dl lW Y (AE g) (fl 0 A1T A3Z Y (dl lW Y (AE t) (P3 Y Y Y (gxn 28 Y Y (λa5=>?_) (λa5=>?_))))))
   ·refine n1 Y (n1 Y (n1 Y (n1 Y (n1 Y (n1 Y (n1 Y (Pe Y (AH [2,3,36] Y (GF Y (Sr (Pe Y (Ct (Xr (Rb Y Y ?_))))))))))))));simp;intro e;subst e;simp_all
   ·refine fl 1 pK A3a Y (dl lZ Y (AE d) (fl 0 pK A3a Y (dl lZ Y (AE c) (P2 Y Y (Dx (AH [2,3,36] Y (Cn Y (λa6=>?_) (λa6=>?_))))))))
    ·refine Sr (Pe Y (Ct (Xr (Rb Y Y ?_))));simp;intro e;subst e;simp_all
    ·refine Sk (Cq (Sr (Pe Y (Cb (Cl (λm_ ac w'=>∃(k:Nat),(k<=a.If.length)/\(∀i,i<k->a.If[i]?=b.If[i]?)/\m_=a.If.length-k/\Fits ac 92 [(2,(pv g13)),(3,(pv g14)),(5,(nv k))]/\St w ([bx g14 [(.string b.Name),(iv b.Priority),u7,u9],bx g13 [(.string a.Name),(iv a.Priority),u1,u3]]) w') ?_ ?_)))))
     ·refine λac w' hf hs=>⟨_,0,?_,?_,Y,hf.wk Y,hs⟩
      ·first|assumption|omega|simp
      ·intro i hi;omega
     ·rintro m_ ac w' ⟨k,hk,hi,rfl,hf,hs⟩;refine D.use ?_ hf hs;clear hf hs ac w';refine Cq (Sr (p1 Y (fl 1 A1T A3Z Y (dl lW Y (AE g) (Pe Y (Cd Y (λa7=>?_) (λa7=>?_)))))))
      ·refine Sk (Cq (Cb (Cq (A0 mixed [10,11] (by kernel_rfl) (Tk 0 Y Y (Db A1T Y Y (q:=2) Y) (Tk 1 Y Y (lb 1 A3Z Y Y Y Y) (tR 2 Y Y ?_)))))));obtain⟨b4,u⟩:=sI a.If k;obtain⟨aq,a8,o⟩:=AC (n:=5) rfl g u;obtain⟨b5,rfl,a9⟩:=A8 o;have ar:=rM a9;have au:=AK o;refine Tk 3 Y Y (AJ (l:=a.If) (j:=k) lW Y Y Y (λw' hs=>(rA hs g)) Y (lS u)) (Tk 4 Y Y (EX C1N Y Y a8) (Tk 5 Y Y (Db A1T Y Y (q:=2) Y) (Tk 6 Y Y (lb 0 A3Z Y Y Y Y) (tR 7 Y Y ?_))));obtain⟨b6,v⟩:=sI b.If k;obtain⟨av,aa,p⟩:=AC (n:=5) rfl t v;obtain⟨b7,rfl,ab⟩:=A8 p;have aw:=rM ab;have ax:=AK p;refine Tk 8 Y Y (AJ (l:=b.If) (j:=k) lW Y Y Y (λw' hs=>(rA hs t)) Y (lS v)) (Tk 9 Y Y (EX C1N Y Y aa) (ty 10 Y Y (cv A0M Y Y Y Y (λw' hs=>(C2R (rA hs o) (rA hs p))) ?_)));refine tZ Y (tW 11 Y Y Y (tE (Xt (AH [2,3,5,55] Y (CN Y (λae=>?_) (λae=>?_))))))
       ·refine Sr (Pe Y (Ct (Xq (Xr (Xr (Xq (Xr (Rb Y Y ?_))))))));simp;intro e;subst e;simp_all
       ·refine Ck (Xb (Xt (Cr (p1 Y (ad (k+1) Y (Pe Y (λac w' hf hs=>⟨_,?_,k+1,?_,?_,Y,hf.wk Y,hs⟩)))))))
        ·omega
        ·first|assumption|omega|simp
        ·refine DF hi ‹_› ‹_› ?_;first|(simp_all;done)|(apply Fact.mk_eq<;>simp_all)
      ·refine Cx (Xx (Xx (Xe (Xt (Cq (Sr (Pe Y (Cb (Cl (λm_ ac w'=>∃(m:Nat),(m<=a.Then.length)/\(∀i,i<m->a.Then[i]?=b.Then[i]?)/\m_=a.Then.length-m/\Fits ac 92 [(2,(pv g13)),(3,(pv g14)),(6,(nv m))]/\St w ([bx g14 [(.string b.Name),(iv b.Priority),u7,u9],bx g13 [(.string a.Name),(iv a.Priority),u1,u3]]) w') ?_ ?_)))))))))
       ·refine λac w' hf hs=>⟨_,0,?_,?_,Y,hf.wk Y,hs⟩
        ·first|assumption|omega|simp
        ·intro i hi;omega
       ·rintro m_ ac w' ⟨m,hm,hj,rfl,hf,hs⟩;refine D.use ?_ hf hs;clear hf hs ac w';refine Cq (Sr (p1 Y (fl 1 pK A3a Y (dl lZ Y (AE d) (Pe Y (Cd Y (λaf=>?_) (λaf=>?_)))))))
        ·refine Sk (Cq (Cb (Cq (A0 mixed [26,27,28] (by kernel_rfl) (Tk 0 Y Y (Db pK Y Y (q:=3) Y) (Tk 1 Y Y (lb 1 A3a Y Y Y Y) (tR 2 Y Y ?_)))))));obtain⟨b8,r⟩:=sI a.Then m;obtain⟨ay,x,y⟩:=AC (n:=3) rfl d r;obtain⟨b9,rfl,ag⟩:=CH y;have az:=rM ag;have ah:=A9 y;refine Tk 3 Y Y (AJ (l:=a.Then) (j:=m) lZ Y Y Y (λw' hs=>(rA hs d)) Y (lS r)) (Tk 4 Y Y (B2 B7z Y Y) (Tk 5 Y Y (lr CJ Y Y x Y) (Tk 6 Y Y (Db pK Y Y (q:=3) Y) (Tk 7 Y Y (lb 0 A3a Y Y Y Y) (tR 8 Y Y ?_)))));obtain⟨ba,s⟩:=sI b.Then m;obtain⟨b0,z,a0⟩:=AC (n:=3) rfl c s;obtain⟨bb,rfl,ai⟩:=CH a0;have b1:=rM ai;have aj:=A9 a0;refine Tk 9 Y Y (AJ (l:=b.Then) (j:=m) lZ Y Y Y (λw' hs=>(rA hs c)) Y (lS s)) (Tk 10 Y Y (B2 B7z Y Y) (Tk 11 Y Y (lr CJ Y Y z Y) (tK 15 [12,13] Y (gxn 76 Y Y (λak=>?_) (λak=>?_)))))
         ·refine tK 1 [14,15,16,17,18,19,20,21,22,23,24,25,26,27] Y (tW 28 Y Y Y (tE (Xt (AH [2,3,6,91] Y (GF Y (Sr (Pe Y ?_)))))));refine Ct (Xq (Xr (Xr (Xq (Xr (Rb Y Y ?_))))));simp;intro e;subst e;simp_all
         ·refine Tk 14 Y Y (Db pK Y Y (q:=3) Y) (Tk 15 Y Y (lb 1 A3a Y Y Y Y) (tR 16 Y Y (Tk 17 Y Y (AJ (l:=a.Then) (j:=m) lZ Y Y Y (λw' hs=>(rA hs d)) Y (lS r)) (Tk 18 Y Y (B2 B5B Y Y) (Tk 19 Y Y (EX B4a Y Y (Q1 (f:=1) (n:=2) x Y)) (Tk 20 Y Y (Db pK Y Y (q:=3) Y) (Tk 21 Y Y (lb 0 A3a Y Y Y Y) (tR 22 Y Y (Tk 23 Y Y (AJ (l:=b.Then) (j:=m) lZ Y Y Y (λw' hs=>(rA hs c)) Y (lS s)) (Tk 24 Y Y (B2 B5B Y Y) (Tk 25 Y Y (EX B4a Y Y (Q1 (f:=1) (n:=2) z Y)) (ty 26 Y Y (cv A4z Y Y Y Y (λw' hs=>(C2C (rA hs ah) (rA hs aj))) ?_)))))))))))));refine tZ Y (tW 27 Y Y Y (tW 28 Y Y Y (tE (Xt (AH [2,3,6,91] Y (CN Y (λal=>?_) (λal=>?_)))))))
          ·refine Sr (Pe Y (Ct (Xq (Xr (Xr (Xq (Xr (Rb Y Y ?_))))))));simp;intro e;subst e;simp_all
          ·refine Ck (Xb (Xt (Cr (p1 Y (ad (m+1) Y (Pe Y (λac w' hf hs=>⟨_,?_,m+1,?_,?_,Y,hf.wk Y,hs⟩)))))))
           ·omega
           ·first|assumption|omega|simp
           ·refine DF hj ‹_› ‹_› ?_;first|(simp_all;done)|(apply Action.mk_eq<;>simp_all)
        ·refine Cx (Xx (Xx (Xe (Xt (Sr (Pe Y (Ct (Rb Y Y ?_))))))));simp;exact Rule.mk_eq ‹_› ‹_› (C7 (by omega) (λi h=>hi i (by omega))) (C7 (by omega) (λi h=>hj i (by omega)))
theorem A8y{w:World}{q:Value}{a:(List Event)}{r:Value}{b:(List Event)}(c:Gd.rd w [q] a)(g:Gd.rd w [r] b):Cy 66 [q,r] w (Val w (.bool (decide (a=b)))):=by
 have a6:=rM c;have a7:=rM g;refine enter 55 Tryz.func66 Y Y Y (Sr (Pe Y (Cq (Sr (p1 Y (dl C1U Y (AE c) (p1 Y (dl C1U Y (AE g) (Pe Y (Cn Y (λa1=>?_) (λa1=>?_)))))))))))
 ·refine Sr (Pe Y (Ct (Xr (Rb Y Y ?_))));simp;intro e;subst e;simp_all
 ·refine Sk (Cq (Sr (p1 Y (dl C1U Y (AE c) (Pe Y (Cb (Cl (λm_ ac w'=>∃(k:Nat),(k<=a.length)/\(∀i,i<k->a[i]?=b[i]?)/\m_=a.length-k/\Fits ac 55 [(0,q),(1,r),(12,(nv a.length)),(13,(nv k))]/\St w ([]) w') ?_ ?_)))))))
  ·refine λac w' hf hs=>⟨_,0,?_,?_,Y,hf.wk Y,hs⟩
   ·first|assumption|omega|simp
   ·intro i hi;omega
  ·rintro m_ ac w' ⟨k,hk,hi,rfl,hf,hs⟩;refine D.use ?_ hf hs;clear hf hs ac w';refine Sr (Pe Y (Cq (Cd Y (λa2=>?_) (λa2=>?_))))
   ·refine Sk (Cq (Cb (Sr (P2 Y Y (Dx (Cq (A0 mixed [35,36,37] (by kernel_rfl) (tK 36 [0,1] Y ?_))))))));obtain⟨x5,o⟩:=sI a k;obtain⟨a8,at8,s⟩:=AC (n:=4) rfl c o;obtain⟨a9,rfl,t⟩:=D2 s;have a3:=rM t;have u:=CC s;refine Tk 2 Y Y (AJ (l:=a) (j:=k) C1U Y Y Y (λw' hs=>(rA hs c)) Y (lS o)) (Tk 3 Y Y (B2 C1y Y Y) (Tk 4 Y Y (lr CJ Y Y at8 Y) (tK 31 [5,6] Y ?_)));obtain⟨aa,d⟩:=sI b k;obtain⟨a4,m,p⟩:=AC (n:=4) rfl g d;obtain⟨ab,rfl,v⟩:=D2 p;have a5:=rM v;have x:=CC p;refine Tk 7 Y Y (AJ (l:=b) (j:=k) C1U Y Y Y (λw' hs=>(rA hs g)) Y (lS d)) (Tk 8 Y Y (B2 C1y Y Y) (Tk 9 Y Y (lr CJ Y Y m Y) (tK 26 [10,11] Y (gxn 27 Y Y (λy=>?_) (λy=>?_)))))
    ·refine tK 2 [12,13,14,15,16,17,18,19,20,21,22,23,24,25,26,27,28,29,30,31,32,33,34,35] Y ?_;refine tN 36 Y Y (tW 37 Y Y Y (tE (Xt (AH [0,1,12,13,53] Y (GF Y (Sr (Pe Y (Ct (Xq (Xr (Xr (Xq (Xr (Rb Y Y ?_))))))))))))));simp;intro e;subst e;simp_all
    ·refine tK 24 [12,13] Y (Tk 14 Y Y (AJ (l:=a) (j:=k) C1U Y Y Y (λw' hs=>(rA hs c)) Y (lS o)) (Tk 15 Y Y (B2 C1W Y Y) (Tk 16 Y Y (lr BK Y Y at8 Y) (tK 19 [17,18] Y (Tk 19 Y Y (AJ (l:=b) (j:=k) C1U Y Y Y (λw' hs=>(rA hs g)) Y (lS d)) (Tk 20 Y Y (B2 C1W Y Y) (Tk 21 Y Y (lr BK Y Y m Y) (Tk 22 Y Y (E5 Y Y Y) (tK 13 [23,24] Y (A3C 40 Y Y (λz=>?_) (λz=>?_)))))))))))
     ·refine tK 1 [25,26,27,28,29,30,31,32,33,34,35,36] Y (tW 37 Y Y Y (tE (Xt (AH [0,1,12,13,53] Y (GF Y (Sr (Pe Y (Ct (Xq ?_)))))))));refine Xr (Xr (Xq (Xr (Rb Y Y ?_))));simp;intro e;subst e;simp_all
     ·refine tK 11 [25,26] Y (Tk 27 Y Y (AJ (l:=a) (j:=k) C1U Y Y Y (λw' hs=>(rA hs c)) Y (lS o)) (Tk 28 Y Y (B2 C1S Y Y) (Tk 29 Y Y (EX B4Z Y Y (Q1 (f:=2) (n:=2) at8 Y)) (tK 6 [30,31] Y (Tk 32 Y Y (AJ (l:=b) (j:=k) C1U Y Y Y (λw' hs=>(rA hs g)) Y (lS d)) (Tk 33 Y Y (B2 C1S Y Y) (Tk 34 Y Y (EX B4Z Y Y (Q1 (f:=2) (n:=2) m Y)) (ty 35 Y Y (cv A3Q Y Y Y Y (λw' hs=>(OU (rA hs u) (rA hs x))) ?_)))))))));refine tZ Y (tW 36 Y Y Y (tW 37 Y Y Y (tE (Xt (AH [0,1,12,13,53] Y (CN Y (λa0=>?_) (λa0=>?_)))))))
      ·refine Sr (Pe Y (Ct (Xq (Xr (Xr (Xq (Xr (Rb Y Y ?_))))))));simp;intro e;subst e;simp_all
      ·refine Ck (Xb (Xt (Cr (ad (k+1) Y (Pe Y (λac w' hf hs=>⟨_,?_,k+1,?_,?_,Y,hf.wk Y,hs⟩))))))
       ·omega
       ·first|assumption|omega|simp
       ·refine DF hi ‹_› ‹_› ?_;first|(simp_all;done)|(apply Event.mk_eq<;>simp_all)
   ·refine Cx (Xx (Xx (Xe (Xt (Sr (Pe Y (Ct (Rb Y Y ?_))))))));simp;exact C7 (by omega) (λi h=>hi i (by omega))
set_option maxHeartbeats 4000000 in
theorem C2M{w:World}{av:List Value}{a:Engine}{aw:List Value}{b:Engine}(bo:Gd.rd w av a)(bp:Gd.rd w aw b):Cy 22 [(.agg av.toArray),(.agg aw.toArray)] w (Val w (.bool (decide (a=b)))):=by
 obtain⟨u1,u3,u5,u7,rfl,y,v,x,z⟩:=C6 bo;have cn:=rM y;have bw:=rM v;have bz:=rM x;have c0:=rM z;obtain⟨a0,a1,a2,a3,rfl,t,g,o,u⟩:=C6 bp;have c1:=rM t;have c2:=rM g;have c3:=rM o;have c4:=rM u;refine enter 167 Tryz.func22 Y Y Y (Sr (bX Y λc=>?_));refine bX Y λd=>?_
 refine Pe Y (Dh ([bx d [a0,a1,(iv b.Clock),a2,(.bool b.Halted),a3],bx c [u1,u3,(iv a.Clock),u5,(.bool a.Halted),u7]]) Y (Cq (Sr (fl 1 C1t C2J Y (dl C1s Y (AE y) (fl 0 C1t C2J Y (dl C1s Y (AE t) (P2 Y Y (gxn 16 Y Y (λax=>?_) (λax=>?_))))))))))
 ·refine n1 Y (n1 Y (n1 Y (n1 Y (n1 Y (n1 Y (n1 Y (P2 Y Y (n1 Y (n1 Y (n1 Y (n1 Y (n1 Y (n1 Y (n1 Y (P2 Y Y (n1 Y (n1 Y (n1 Y (n1 Y (n1 Y (n1 Y (n1 Y (P2 Y Y ?_)))))))))))))))))))))));refine n1 Y (n1 Y (n1 Y (n1 Y (n1 Y (P2 Y Y (n1 Y (n1 Y (n1 Y (n1 Y (n1 Y (Pe Y (AH [2,3,56] Y (GF Y (Sr (Pe Y (Ct (Xr (Rb Y Y ?_))))))))))))))))));simp;intro e;subst e;simp_all
 ·refine fl 1 C1c C1w Y (dl C1h Y (AE v) (fl 0 C1c C1w Y (dl C1h Y (AE g) (P3 Y Y Y (gxn 25 Y Y (λay=>?_) (λay=>?_))))))
  ·refine n1 Y (n1 Y (n1 Y (n1 Y (n1 Y (n1 Y (n1 Y (P2 Y Y (n1 Y (n1 Y (n1 Y (n1 Y (n1 Y (n1 Y (n1 Y (P2 Y Y (n1 Y (n1 Y (n1 Y (n1 Y (n1 Y (P2 Y Y (n1 Y (n1 Y ?_)))))))))))))))))))))));refine n1 Y (n1 Y (n1 Y (Pe Y (AH [2,3,56] Y (GF Y (Sr (Pe Y (Ct (Xr (Rb Y Y ?_))))))))));simp;intro e;subst e;simp_all
  ·refine fl 1 C1i C1z Y (dl C1u Y (AE x) (fl 0 C1i C1z Y (dl C1u Y (AE o) (P3 Y Y Y (gxn 34 Y Y (λaz=>?_) (λaz=>?_))))))
   ·refine n1 Y (n1 Y (n1 Y (n1 Y (n1 Y (n1 Y (n1 Y (P2 Y Y (n1 Y (n1 Y (n1 Y (n1 Y (n1 Y (P2 Y Y (n1 Y (n1 Y (n1 Y (n1 Y (n1 Y (Pe Y (AH [2,3,56] Y (GF Y ?_)))))))))))))))))))));refine Sr (Pe Y (Ct (Xr (Rb Y Y ?_))));simp;intro e;subst e;simp_all
   ·refine fl 1 C1j C2A Y (dl C1U Y (AE z) (fl 0 C1j C2A Y (dl C1U Y (AE u) (P3 Y Y Y (gxn 43 Y Y (λb0=>?_) (λb0=>?_))))))
    ·refine n1 Y (n1 Y (n1 Y (n1 Y (n1 Y (P2 Y Y (n1 Y (n1 Y (n1 Y (n1 Y (n1 Y (Pe Y (AH [2,3,56] Y (GF Y (Sr (Pe Y (Ct (Xr (Rb Y Y ?_))))))))))))))))));simp;intro e;subst e;simp_all
    ·refine fl 1 C1q CJ Y (fl 0 C1q CJ Y (P3 Y Y Y (gxn 50 Y Y (λb1=>?_) (λb1=>?_))))
     ·refine n1 Y (n1 Y (n1 Y (n1 Y (n1 Y (Pe Y (AH [2,3,56] Y (GF Y (Sr (Pe Y (Ct (Xr (Rb Y Y ?_))))))))))));simp;intro e;subst e;simp_all
     ·refine fl 1 C2O o_4 Y (fl 0 C2O o_4 Y (q1 Y (A2x A6m Y Y Y) (Pe Y (AH [2,3,56] Y (Ci _ Y (λb2=>?_) (λb2=>?_))))))
      ·refine Sr (Pe Y (Ct (Xr (Rb Y Y ?_))));simp;intro e;subst e;simp_all
      ·have c5:=fC b2;refine Sk (Cq (Sr (Pe Y (Cb (Cl (λm_ ac w'=>∃(k:Nat),(k<=a.Rules.length)/\(∀i,i<k->a.Rules[i]?=b.Rules[i]?)/\m_=a.Rules.length-k/\Fits ac 167 [(2,(pv c)),(3,(pv d)),(5,(nv k))]/\St w ([bx d [a0,a1,(iv b.Clock),a2,(.bool b.Halted),a3],bx c [u1,u3,(iv a.Clock),u5,(.bool a.Halted),u7]]) w') ?_ ?_)))))
       ·refine λac w' hf hs=>⟨_,0,?_,?_,Y,hf.wk Y,hs⟩
        ·first|assumption|omega|simp
        ·intro i hi;omega
       ·rintro m_ ac w' ⟨k,hk,hi,rfl,hf,hs⟩;refine D.use ?_ hf hs;clear hf hs ac w';refine Cq (Sr (p1 Y (fl 1 C1t C2J Y (dl C1s Y (AE y) (Pe Y (Cd Y (λb3=>?_) (λb3=>?_)))))))
        ·refine Sk (Cq (Cb (Cq (A0 mixed [10,11] (by kernel_rfl) (Tk 0 Y Y (Db C1t Y Y (q:=0) Y) (Tk 1 Y Y (lb 1 C2J Y Y Y Y) (tR 2 Y Y ?_)))))));obtain⟨co,a9⟩:=sI a.Rules k;obtain⟨c6,b4,aa⟩:=AC (n:=4) rfl y a9;obtain⟨cp,cq,rfl,b5,b6⟩:=BC aa;have c7:=rM b5;have c8:=rM b6;refine Tk 3 Y Y (AJ (l:=a.Rules) (j:=k) C1s Y Y Y (λw' hs=>(rA hs y)) Y (lS a9)) (Tk 4 Y Y (EX qM Y Y b4) (Tk 5 Y Y (Db C1t Y Y (q:=0) Y) (Tk 6 Y Y (lb 0 C2J Y Y Y Y) (tR 7 Y Y ?_))));obtain⟨cr,ab⟩:=sI b.Rules k;obtain⟨c9,b7,ae⟩:=AC (n:=4) rfl t ab;obtain⟨cs,ct,rfl,b8,b9⟩:=BC ae;have ca:=rM b8;have cb:=rM b9;refine Tk 8 Y Y (AJ (l:=b.Rules) (j:=k) C1s Y Y Y (λw' hs=>(rA hs t)) Y (lS ab)) (Tk 9 Y Y (EX qM Y Y b7) (ty 10 Y Y (cv A6W Y Y Y Y (λw' hs=>(C2S (rA hs aa) (rA hs ae))) ?_)));refine tZ Y (tW 11 Y Y Y (tE (Xt (AH [2,3,5,75] Y (CN Y (λba=>?_) (λba=>?_))))))
         ·refine Sr (Pe Y (Ct (Xq (Xr (Xr (Xq (Xr (Rb Y Y ?_))))))));simp;intro e;subst e;simp_all
         ·refine Ck (Xb (Xt (Cr (p1 Y (ad (k+1) Y (Pe Y (λac w' hf hs=>⟨_,?_,k+1,?_,?_,Y,hf.wk Y,hs⟩)))))))
          ·omega
          ·first|assumption|omega|simp
          ·refine DF hi ‹_› ‹_› ?_;first|(simp_all;done)|(apply Fact.mk_eq<;>simp_all)
        ·refine Cx (Xx (Xx (Xe (Xt (Cq (Sr (Pe Y (Cb (Cl (λm_ ac w'=>∃(m:Nat),(m<=a.Memory.length)/\(∀i,i<m->a.Memory[i]?=b.Memory[i]?)/\m_=a.Memory.length-m/\Fits ac 167 [(2,(pv c)),(3,(pv d)),(6,(nv m))]/\St w ([bx d [a0,a1,(iv b.Clock),a2,(.bool b.Halted),a3],bx c [u1,u3,(iv a.Clock),u5,(.bool a.Halted),u7]]) w') ?_ ?_)))))))))
         ·refine λac w' hf hs=>⟨_,0,?_,?_,Y,hf.wk Y,hs⟩
          ·first|assumption|omega|simp
          ·intro i hi;omega
         ·rintro m_ ac w' ⟨m,hm,hj,rfl,hf,hs⟩;refine D.use ?_ hf hs;clear hf hs ac w';refine Cq (Sr (p1 Y (fl 1 C1c C1w Y (dl C1h Y (AE v) (Pe Y (Cd Y (λbb=>?_) (λbb=>?_)))))))
          ·refine Sk (Cq (Cb (Cq (A0 mixed [26,27,28] (by kernel_rfl) (Tk 0 Y Y (Db C1c Y Y (q:=1) Y) (Tk 1 Y Y (lb 1 C1w Y Y Y Y) (tR 2 Y Y ?_)))))));obtain⟨cu,a4⟩:=sI a.Memory m;obtain⟨cc,af,ag⟩:=AC (n:=3) rfl v a4;obtain⟨cw,rfl,bc⟩:=B9 ag;have cd:=rM bc;have bd:=BE ag;refine Tk 3 Y Y (AJ (l:=a.Memory) (j:=m) C1h Y Y Y (λw' hs=>(rA hs v)) Y (lS a4)) (Tk 4 Y Y (B2 C1n Y Y) (Tk 5 Y Y (lr CJ Y Y af Y) (Tk 6 Y Y (Db C1c Y Y (q:=1) Y) (Tk 7 Y Y (lb 0 C1w Y Y Y Y) (tR 8 Y Y ?_)))));obtain⟨cx,a5⟩:=sI b.Memory m;obtain⟨ce,ah,ai⟩:=AC (n:=3) rfl g a5;obtain⟨cy,rfl,be⟩:=B9 ai;have cf:=rM be;have bf:=BE ai;refine Tk 9 Y Y (AJ (l:=b.Memory) (j:=m) C1h Y Y Y (λw' hs=>(rA hs g)) Y (lS a5)) (Tk 10 Y Y (B2 C1n Y Y) (Tk 11 Y Y (lr CJ Y Y ah Y) (tK 15 [12,13] Y (gxn 96 Y Y (λbg=>?_) (λbg=>?_)))))
           ·refine tK 1 [14,15,16,17,18,19,20,21,22,23,24,25,26,27] Y (tW 28 Y Y Y (tE (Xt (AH [2,3,6,111] Y (GF Y (Sr (Pe Y ?_)))))));refine Ct (Xq (Xr (Xr (Xq (Xr (Rb Y Y ?_))))));simp;intro e;subst e;simp_all
           ·refine Tk 14 Y Y (Db C1c Y Y (q:=1) Y) (Tk 15 Y Y (lb 1 C1w Y Y Y Y) (tR 16 Y Y (Tk 17 Y Y (AJ (l:=a.Memory) (j:=m) C1h Y Y Y (λw' hs=>(rA hs v)) Y (lS a4)) (Tk 18 Y Y (B2 C1v Y Y) (Tk 19 Y Y (EX B4Z Y Y (Q1 (f:=0) (n:=2) af Y)) (Tk 20 Y Y (Db C1c Y Y (q:=1) Y) (Tk 21 Y Y (lb 0 C1w Y Y Y Y) (tR 22 Y Y (Tk 23 Y Y (AJ (l:=b.Memory) (j:=m) C1h Y Y Y (λw' hs=>(rA hs g)) Y (lS a5)) (Tk 24 Y Y (B2 C1v Y Y) (Tk 25 Y Y (EX B4Z Y Y (Q1 (f:=0) (n:=2) ah Y)) (ty 26 Y Y (cv L6 Y Y Y Y (λw' hs=>(cJ (rA hs bd) (rA hs bf))) ?_)))))))))))));refine tZ Y (tW 27 Y Y Y (tW 28 Y Y Y (tE (Xt (AH [2,3,6,111] Y (CN Y (λbh=>?_) (λbh=>?_)))))))
            ·refine Sr (Pe Y (Ct (Xq (Xr (Xr (Xq (Xr (Rb Y Y ?_))))))));simp;intro e;subst e;simp_all
            ·refine Ck (Xb (Xt (Cr (p1 Y (ad (m+1) Y (Pe Y (λac w' hf hs=>⟨_,?_,m+1,?_,?_,Y,hf.wk Y,hs⟩)))))))
             ·omega
             ·first|assumption|omega|simp
             ·refine DF hj ‹_› ‹_› ?_;first|(simp_all;done)|(apply Stamp.mk_eq<;>simp_all)
          ·refine Cx (Xx (Xx (Xe (Xt (Cq (Sr (Pe Y (Cb (Cl (λm_ ac w'=>∃(p:Nat),(p<=a.Fired.length)/\(∀i,i<p->a.Fired[i]?=b.Fired[i]?)/\m_=a.Fired.length-p/\Fits ac 167 [(2,(pv c)),(3,(pv d)),(7,(nv p))]/\St w ([bx d [a0,a1,(iv b.Clock),a2,(.bool b.Halted),a3],bx c [u1,u3,(iv a.Clock),u5,(.bool a.Halted),u7]]) w') ?_ ?_)))))))))
           ·refine λac w' hf hs=>⟨_,0,?_,?_,Y,hf.wk Y,hs⟩
            ·first|assumption|omega|simp
            ·intro i hi;omega
           ·rintro m_ ac w' ⟨p,hp,hu,rfl,hf,hs⟩;refine D.use ?_ hf hs;clear hf hs ac w';refine Cq (Sr (p1 Y (fl 1 C1i C1z Y (dl C1u Y (AE x) (Pe Y (Cd Y (λbi=>?_) (λbi=>?_)))))))
            ·refine Sk (Cq (Cb (Cq (A0 mixed [26,27,28] (by kernel_rfl) (Tk 0 Y Y (Db C1i Y Y (q:=3) Y) (Tk 1 Y Y (lb 1 C1z Y Y Y Y) (tR 2 Y Y ?_)))))));obtain⟨cz,a6⟩:=sI a.Fired p;obtain⟨cg,aj,bj⟩:=AC (n:=2) rfl x a6;obtain⟨d0,rfl,ak⟩:=BQ bj;have ch:=rM ak;refine Tk 3 Y Y (AJ (l:=a.Fired) (j:=p) C1u Y Y Y (λw' hs=>(rA hs x)) Y (lS a6)) (Tk 4 Y Y (B2 C1r Y Y) (Tk 5 Y Y (lr BK Y Y aj Y) (Tk 6 Y Y (Db C1i Y Y (q:=3) Y) (Tk 7 Y Y (lb 0 C1z Y Y Y Y) (tR 8 Y Y ?_)))));obtain⟨d1,a7⟩:=sI b.Fired p;obtain⟨ci,al,bk⟩:=AC (n:=2) rfl o a7;obtain⟨d2,rfl,am⟩:=BQ bk;have cj:=rM am;refine Tk 9 Y Y (AJ (l:=b.Fired) (j:=p) C1u Y Y Y (λw' hs=>(rA hs o)) Y (lS a7)) (Tk 10 Y Y (B2 C1r Y Y) (Tk 11 Y Y (lr BK Y Y al Y) (Tk 12 Y Y (E5 Y Y Y) (tR 13 Y Y (A3C 132 Y Y (λbl=>?_) (λbl=>?_))))))
             ·refine tK 1 [14,15,16,17,18,19,20,21,22,23,24,25,26,27] Y (tW 28 Y Y Y (tE (Xt (AH [2,3,7,147] Y (GF Y (Sr (Pe Y ?_)))))));refine Ct (Xq (Xr (Xr (Xq (Xr (Rb Y Y ?_))))));simp;intro e;subst e;simp_all
             ·refine Tk 14 Y Y (Db C1i Y Y (q:=3) Y) (Tk 15 Y Y (lb 1 C1z Y Y Y Y) (tR 16 Y Y (Tk 17 Y Y (AJ (l:=a.Fired) (j:=p) C1u Y Y Y (λw' hs=>(rA hs x)) Y (lS a6)) (Tk 18 Y Y (B2 C1l Y Y) (Tk 19 Y Y (lr B5 Y Y aj Y) (Tk 20 Y Y (Db C1i Y Y (q:=3) Y) (Tk 21 Y Y (lb 0 C1z Y Y Y Y) (tR 22 Y Y (Tk 23 Y Y (AJ (l:=b.Fired) (j:=p) C1u Y Y Y (λw' hs=>(rA hs o)) Y (lS a7)) (Tk 24 Y Y (B2 C1l Y Y) (Tk 25 Y Y (lr B5 Y Y al Y) (ty 26 Y Y (cv A6o Y Y Y Y (λw' hs=>(MP (rA hs ak) (rA hs am))) ?_)))))))))))));refine tZ Y (tW 27 Y Y Y (tW 28 Y Y Y (tE (Xt (AH [2,3,7,147] Y (CN Y (λbm=>?_) (λbm=>?_)))))))
              ·refine Sr (Pe Y (Ct (Xq (Xr (Xr (Xq (Xr (Rb Y Y ?_))))))));simp;intro e;subst e;simp_all
              ·refine Ck (Xb (Xt (Cr (p1 Y (ad (p+1) Y (Pe Y (λac w' hf hs=>⟨_,?_,p+1,?_,?_,Y,hf.wk Y,hs⟩)))))))
               ·omega
               ·first|assumption|omega|simp
               ·refine DF hu ‹_› ‹_› ?_;first|(simp_all;done)|(apply Firing.mk_eq<;>simp_all)
            ·refine Cx (Xx (Xx (Xe (Xt (Cq (Sr (Pe Y (Cb (Cl (λm_ ac w'=>∃(q:Nat),(q<=a.Log.length)/\(∀i,i<q->a.Log[i]?=b.Log[i]?)/\m_=a.Log.length-q/\Fits ac 167 [(2,(pv c)),(3,(pv d)),(8,(nv q))]/\St w ([bx d [a0,a1,(iv b.Clock),a2,(.bool b.Halted),a3],bx c [u1,u3,(iv a.Clock),u5,(.bool a.Halted),u7]]) w') ?_ ?_)))))))))
             ·refine λac w' hf hs=>⟨_,0,?_,?_,Y,hf.wk Y,hs⟩
              ·first|assumption|omega|simp
              ·intro i hi;omega
             ·rintro m_ ac w' ⟨q,hq,hv,rfl,hf,hs⟩;refine D.use ?_ hf hs;clear hf hs ac w';refine Cq (Sr (p1 Y (fl 1 C1j C2A Y (dl C1U Y (AE z) (Pe Y (Cd Y (λbn=>?_) (λbn=>?_)))))))
              ·refine Sk (Cq (Cb (Cq (A0 mixed [10,11] (by kernel_rfl) (Tk 0 Y Y (Db C1j Y Y (q:=5) Y) (Tk 1 Y Y (lb 1 C2A Y Y Y Y) (tR 2 Y Y ?_)))))));obtain⟨d3,an⟩:=sI a.Log q;obtain⟨bq,ao,r⟩:=AC (n:=4) rfl z an;obtain⟨ck,rfl,ap⟩:=D2 r;have br:=rM ap;have bs:=CC r;refine Tk 3 Y Y (AJ (l:=a.Log) (j:=q) C1U Y Y Y (λw' hs=>(rA hs z)) Y (lS an)) (Tk 4 Y Y (EX C2U Y Y ao) (Tk 5 Y Y (Db C1j Y Y (q:=5) Y) (Tk 6 Y Y (lb 0 C2A Y Y Y Y) (tR 7 Y Y ?_))));obtain⟨cl,a8⟩:=sI b.Log q;obtain⟨bt,aq,s⟩:=AC (n:=4) rfl u a8;obtain⟨cm,rfl,ar⟩:=D2 s;have bu:=rM ar;have bv:=CC s;refine Tk 8 Y Y (AJ (l:=b.Log) (j:=q) C1U Y Y Y (λw' hs=>(rA hs u)) Y (lS a8)) (Tk 9 Y Y (EX C2U Y Y aq) (ty 10 Y Y (cv A6p Y Y Y Y (λw' hs=>(A9K (rA hs r) (rA hs s))) ?_)));refine tZ Y (tW 11 Y Y Y (tE (Xt (AH [2,3,8,166] Y (CN Y (λau=>?_) (λau=>?_))))))
               ·refine Sr (Pe Y (Ct (Xq (Xr (Xr (Xq (Xr (Rb Y Y ?_))))))));simp;intro e;subst e;simp_all
               ·refine Ck (Xb (Xt (Cr (p1 Y (ad (q+1) Y (Pe Y (λac w' hf hs=>⟨_,?_,q+1,?_,?_,Y,hf.wk Y,hs⟩)))))))
                ·omega
                ·first|assumption|omega|simp
                ·refine DF hv ‹_› ‹_› ?_;first|(simp_all;done)|(apply Fact.mk_eq<;>simp_all)
              ·refine Cx (Xx (Xx (Xe (Xt (Sr (Pe Y (Ct (Rb Y Y ?_))))))));simp;exact Engine.mk_eq (C7 (by omega) (λi h=>hi i (by omega))) (C7 (by omega) (λi h=>hj i (by omega))) (by simp_all) (C7 (by omega) (λi h=>hu i (by omega))) (by simp_all) (C7 (by omega) (λi h=>hv i (by omega)))
end Go.Sy.Ev3
