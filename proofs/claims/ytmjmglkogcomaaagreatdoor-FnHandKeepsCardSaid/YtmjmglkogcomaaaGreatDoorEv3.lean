/-
  Contracts of functions of the program, walked (printed by a program of ours).
  Conditions: those that each theorem states.
-/
import Derived.Test.YtmjmglkogcomaaaGreatDoorEng
set_option linter.unusedVariables false
set_option maxRecDepth 20000
namespace Go.Sy.Ev3
open Go Go.RowKit Go.Proofs Go.Sy
open Go.Sy.Bel1 Go.Sy.Ev1
theorem UE{w:World}{m:Value}{a:(List ByteArray)}{o:Value}{b:(List ByteArray)}(c:Gd.rd w [m] a)(f:Gd.rd w [o] b):Cy 84 [m,o] w (Val w (.bool (decide (a=b)))):=by
 have a3:=rM c;have a4:=rM f;refine enter 26 Tryz.func84 Y Y Y<|Sr<|Pe Y<|Cq<|Sr<|p1 Y<|dl HJ Y (AE c)<|p1 Y<|dl HJ Y (AE f)<|Pe Y<|Cn Y (λx=>?_) λx=>?_
 ·refine Sr<|Pe Y<|Ct<|Xr<|Rb Y Y ?_;simp;intro e;subst e;simp_all
 ·refine Sk<|Cq<|Sr<|p1 Y<|dl HJ Y (AE c)<|Pe Y<|Cb<|Cl (λm_ v w'=>∃(k:Nat),(k<=a.length)/\(∀i,i<k->a[i]?=b[i]?)/\m_=a.length-k/\Fits v 26 [(0,m),(1,o),(12,nv a.length),(13,nv k)]/\St w ([]) w') ?_ ?_
  ·refine λv w' p d=>⟨_,0,?_,?_,Y,p.wk Y,d⟩
   ·omega
   ·intro i hi;omega
  ·rintro m_ v w' ⟨k,hk,hi,rfl,p,d⟩;refine D.use ?_ p d;clear p d v w';refine Sr<|Pe Y<|Cq<|Cd Y (λy=>?_) λy=>?_
   ·refine Sk<|Cq<|Cb<|Sr<|PE 2 Y<|Cq<|A0 mixed [] (by kernel_rfl)<|tK 7 [0,1] Y ?_;obtain⟨x5,q⟩:=sI a k;obtain⟨z,a2,a0⟩:=AC (n:=1) rfl c q;obtain rfl:z=[.string x5]:=a0;refine Tk 2 Y Y (AJ (l:=a) (j:=k) HJ Y Y Y (λw' d=>rA d c) Y<|lS q)<|Tk 3 Y Y (HI BK Y Y a2 Y)<|tK 3 [4,5] Y ?_;obtain⟨a1,g⟩:=sI b k;obtain⟨r,s,t⟩:=AC (n:=1) rfl f g;obtain rfl:r=[.string a1]:=t;refine Tk 6 Y Y (AJ (l:=b) (j:=k) HJ Y Y Y (λw' d=>rA d f) Y<|lS g)<|Tk 7 Y Y (HI BK Y Y s Y)<|Tk 8 Y Y (E5 Y Y Y)<|tE<|Xt<|R8 Y (λu=>?_) λu=>?_
    ·refine Sr<|Pe Y<|Ct<|Xq<|Xr<|Xr<|Xq<|Xr<|Rb Y Y ?_;simp;intro e;subst e;simp_all
    ·refine Ck<|Xb<|Xt<|Cr<|ad (k+1) Y<|Pe Y λv w' p d=>⟨_,?_,k+1,?_,?_,Y,p.wk Y,d⟩
     ·omega
     ·omega
     ·refine DF hi ‹_› ‹_› ?_;simp_all
   ·refine Cx<|Xx<|Xx<|Xe<|Xt<|Sr<|Pe Y<|Ct<|Rb Y Y ?_;simp;exact C7 (by omega) (λi h=>hi i (by omega))
theorem IZ{w:World}{m:Value}{a:(List Int)}{o:Value}{b:(List Int)}(c:Gd.rd w [m] a)(f:Gd.rd w [o] b):Cy 83 [m,o] w (Val w (.bool (decide (a=b)))):=by
 have a3:=rM c;have a4:=rM f;refine enter 26 Tryz.func83 Y Y Y<|Sr<|Pe Y<|Cq<|Sr<|p1 Y<|dl C1s Y (AE c)<|p1 Y<|dl C1s Y (AE f)<|Pe Y<|Cn Y (λx=>?_) λx=>?_
 ·refine Sr<|Pe Y<|Ct<|Xr<|Rb Y Y ?_;simp;intro e;subst e;simp_all
 ·refine Sk<|Cq<|Sr<|p1 Y<|dl C1s Y (AE c)<|Pe Y<|Cb<|Cl (λm_ v w'=>∃(k:Nat),(k<=a.length)/\(∀i,i<k->a[i]?=b[i]?)/\m_=a.length-k/\Fits v 26 [(0,m),(1,o),(12,nv a.length),(13,nv k)]/\St w ([]) w') ?_ ?_
  ·refine λv w' p d=>⟨_,0,?_,?_,Y,p.wk Y,d⟩
   ·omega
   ·intro i hi;omega
  ·rintro m_ v w' ⟨k,hk,hi,rfl,p,d⟩;refine D.use ?_ p d;clear p d v w';refine Sr<|Pe Y<|Cq<|Cd Y (λy=>?_) λy=>?_
   ·refine Sk<|Cq<|Cb<|Sr<|PE 2 Y<|Cq<|A0 mixed [] (by kernel_rfl)<|tK 7 [0,1] Y ?_;obtain⟨x5,q⟩:=sI a k;obtain⟨z,a2,a0⟩:=AC (n:=1) rfl c q;obtain rfl:z=[.int .i64 x5]:=a0;refine Tk 2 Y Y (AJ (l:=a) (j:=k) C1s Y Y Y (λw' d=>rA d c) Y<|lS q)<|Tk 3 Y Y (HI CJ Y Y a2 Y)<|tK 3 [4,5] Y ?_;obtain⟨a1,g⟩:=sI b k;obtain⟨r,s,t⟩:=AC (n:=1) rfl f g;obtain rfl:r=[.int .i64 a1]:=t;refine Tk 6 Y Y (AJ (l:=b) (j:=k) C1s Y Y Y (λw' d=>rA d f) Y<|lS g)<|Tk 7 Y Y (HI CJ Y Y s Y)<|tR 8 Y Y<|tE<|Xt<|Cn Y (λu=>?_) λu=>?_
    ·refine Sr<|Pe Y<|Ct<|Xq<|Xr<|Xr<|Xq<|Xr<|Rb Y Y ?_;simp;intro e;subst e;simp_all
    ·refine Ck<|Xb<|Xt<|Cr<|ad (k+1) Y<|Pe Y λv w' p d=>⟨_,?_,k+1,?_,?_,Y,p.wk Y,d⟩
     ·omega
     ·omega
     ·refine DF hi ‹_› ‹_› ?_;simp_all
   ·refine Cx<|Xx<|Xx<|Xe<|Xt<|Sr<|Pe Y<|Ct<|Rb Y Y ?_;simp;exact C7 (by omega) (λi h=>hi i (by omega))
theorem RI{w:World}{m:Value}{a:(List ByteArray)}{o:Value}{b:(List ByteArray)}(c:Gd.rd w [m] a)(f:Gd.rd w [o] b):Cy 79 [m,o] w (Val w (.bool (decide (a=b)))):=by
 have a3:=rM c;have a4:=rM f;refine enter 26 Tryz.func79 Y Y Y<|Sr<|Pe Y<|Cq<|Sr<|p1 Y<|dl HJ Y (AE c)<|p1 Y<|dl HJ Y (AE f)<|Pe Y<|Cn Y (λx=>?_) λx=>?_
 ·refine Sr<|Pe Y<|Ct<|Xr<|Rb Y Y ?_;simp;intro e;subst e;simp_all
 ·refine Sk<|Cq<|Sr<|Pe Y<|Cb<|Cl (λm_ v w'=>∃(k:Nat),(k<=a.length)/\(∀i,i<k->a[i]?=b[i]?)/\m_=a.length-k/\Fits v 26 [(0,m),(1,o),(5,nv k)]/\St w ([]) w') ?_ ?_
  ·refine λv w' p d=>⟨_,0,?_,?_,Y,p.wk Y,d⟩
   ·omega
   ·intro i hi;omega
  ·rintro m_ v w' ⟨k,hk,hi,rfl,p,d⟩;refine D.use ?_ p d;clear p d v w';refine Cq<|Sr<|P2 Y Y<|dl HJ Y (AE c)<|Pe Y<|Cd Y (λy=>?_) λy=>?_
   ·refine Sk<|Cq<|Cb<|Cq<|A0 mixed [] (by kernel_rfl)<|tK 7 [0,1] Y ?_;obtain⟨x5,q⟩:=sI a k;obtain⟨z,a2,a0⟩:=AC (n:=1) rfl c q;obtain rfl:z=[.string x5]:=a0;refine Tk 2 Y Y (AJ (l:=a) (j:=k) HJ Y Y Y (λw' d=>rA d c) Y<|lS q)<|Tk 3 Y Y (HI BK Y Y a2 Y)<|tK 3 [4,5] Y ?_;obtain⟨a1,g⟩:=sI b k;obtain⟨r,s,t⟩:=AC (n:=1) rfl f g;obtain rfl:r=[.string a1]:=t;refine Tk 6 Y Y (AJ (l:=b) (j:=k) HJ Y Y Y (λw' d=>rA d f) Y<|lS g)<|Tk 7 Y Y (HI BK Y Y s Y)<|Tk 8 Y Y (E5 Y Y Y)<|tE<|Xt<|R8 Y (λu=>?_) λu=>?_
    ·refine Sr<|Pe Y<|Ct<|Xq<|Xr<|Xr<|Xq<|Xr<|Rb Y Y ?_;simp;intro e;subst e;simp_all
    ·refine Ck<|Xb<|Xt<|Cr<|p1 Y<|ad (k+1) Y<|Pe Y λv w' p d=>⟨_,?_,k+1,?_,?_,Y,p.wk Y,d⟩
     ·omega
     ·omega
     ·refine DF hi ‹_› ‹_› ?_;simp_all
   ·refine Cx<|Xx<|Xx<|Xe<|Xt<|Sr<|Pe Y<|Ct<|Rb Y Y ?_;simp;exact C7 (by omega) (λi h=>hi i (by omega))
theorem MP{w:World}{m:Value}{a:(List Int)}{o:Value}{b:(List Int)}(c:Gd.rd w [m] a)(f:Gd.rd w [o] b):Cy 39 [m,o] w (Val w (.bool (decide (a=b)))):=by
 have a3:=rM c;have a4:=rM f;refine enter 26 Tryz.func39 Y Y Y<|Sr<|Pe Y<|Cq<|Sr<|p1 Y<|dl C1s Y (AE c)<|p1 Y<|dl C1s Y (AE f)<|Pe Y<|Cn Y (λx=>?_) λx=>?_
 ·refine Sr<|Pe Y<|Ct<|Xr<|Rb Y Y ?_;simp;intro e;subst e;simp_all
 ·refine Sk<|Cq<|Sr<|Pe Y<|Cb<|Cl (λm_ v w'=>∃(k:Nat),(k<=a.length)/\(∀i,i<k->a[i]?=b[i]?)/\m_=a.length-k/\Fits v 26 [(0,m),(1,o),(5,nv k)]/\St w ([]) w') ?_ ?_
  ·refine λv w' p d=>⟨_,0,?_,?_,Y,p.wk Y,d⟩
   ·omega
   ·intro i hi;omega
  ·rintro m_ v w' ⟨k,hk,hi,rfl,p,d⟩;refine D.use ?_ p d;clear p d v w';refine Cq<|Sr<|P2 Y Y<|dl C1s Y (AE c)<|Pe Y<|Cd Y (λy=>?_) λy=>?_
   ·refine Sk<|Cq<|Cb<|Cq<|A0 mixed [] (by kernel_rfl)<|tK 7 [0,1] Y ?_;obtain⟨x5,q⟩:=sI a k;obtain⟨z,a2,a0⟩:=AC (n:=1) rfl c q;obtain rfl:z=[.int .i64 x5]:=a0;refine Tk 2 Y Y (AJ (l:=a) (j:=k) C1s Y Y Y (λw' d=>rA d c) Y<|lS q)<|Tk 3 Y Y (HI CJ Y Y a2 Y)<|tK 3 [4,5] Y ?_;obtain⟨a1,g⟩:=sI b k;obtain⟨r,s,t⟩:=AC (n:=1) rfl f g;obtain rfl:r=[.int .i64 a1]:=t;refine Tk 6 Y Y (AJ (l:=b) (j:=k) C1s Y Y Y (λw' d=>rA d f) Y<|lS g)<|Tk 7 Y Y (HI CJ Y Y s Y)<|tR 8 Y Y<|tE<|Xt<|Cn Y (λu=>?_) λu=>?_
    ·refine Sr<|Pe Y<|Ct<|Xq<|Xr<|Xr<|Xq<|Xr<|Rb Y Y ?_;simp;intro e;subst e;simp_all
    ·refine Ck<|Xb<|Xt<|Cr<|p1 Y<|ad (k+1) Y<|Pe Y λv w' p d=>⟨_,?_,k+1,?_,?_,Y,p.wk Y,d⟩
     ·omega
     ·omega
     ·refine DF hi ‹_› ‹_› ?_;simp_all
   ·refine Cx<|Xx<|Xx<|Xe<|Xt<|Sr<|Pe Y<|Ct<|Rb Y Y ?_;simp;exact C7 (by omega) (λi h=>hi i (by omega))
theorem OU{w:World}{c:List Value}{a:C1G}{d:List Value}{b:C1G}(g:Gd.rd w c a)(h:Gd.rd w d b):Cy 46 [(.agg c.toArray),(.agg d.toArray)] w (Val w (.bool (decide (a=b)))):=by
 obtain⟨k,rfl,e⟩:=AS g;have l:=rM e;obtain⟨m,rfl,f⟩:=AS h;have n:=rM f;refine enter 17 Tryz.func46 Y Y Y<|Sr (bX Y λo=>?_);refine bX Y λp=>?_
 refine Pe Y<|Dh [bx p [.string b.p5,m],bx o [.string a.p5,k]] Y<|Sr<|fl 1 C5V BK Y<|fl 0 C5V BK Y<|q1 Y (DO Y Y Y)<|p1 Y<|EY 10 Y Y (λi=>?_) λi=>?_
 ·refine fl 1 C4Q VN Y<|fl 0 C4Q VN Y<|qv A6Q Y (λw' j=>UE (rA j e)<|rA j f)<|PE 2 Y<|Ct<|Rb Y Y ?_;show((decide (a.a=b.a)):Bool)=_
  cases a;cases b;simp_all
 ·refine PE 7 Y<|Ct<|Rb Y Y ?_
  cases a;cases b;simp_all
theorem cJ{w:World}{c:List Value}{a:C1G}{d:List Value}{b:C1G}(g:Gd.rd w c a)(h:Gd.rd w d b):Cy 38 [(.agg c.toArray),(.agg d.toArray)] w (Val w (.bool (decide (a=b)))):=by
 obtain⟨k,rfl,e⟩:=AS g;have l:=rM e;obtain⟨m,rfl,f⟩:=AS h;have n:=rM f;refine enter 17 Tryz.func38 Y Y Y<|Sr (bX Y λo=>?_);refine bX Y λp=>?_
 refine Pe Y<|Dh [bx p [.string b.p5,m],bx o [.string a.p5,k]] Y<|Sr<|fl 1 C5V BK Y<|fl 0 C5V BK Y<|q1 Y (DO Y Y Y)<|p1 Y<|EY 10 Y Y (λi=>?_) λi=>?_
 ·refine fl 1 C4Q VN Y<|fl 0 C4Q VN Y<|qv A7H Y (λw' j=>RI (rA j e)<|rA j f)<|PE 2 Y<|Ct<|Rb Y Y ?_;show((decide (a.a=b.a)):Bool)=_
  cases a;cases b;simp_all
 ·refine PE 7 Y<|Ct<|Rb Y Y ?_
  cases a;cases b;simp_all
theorem C2C{w:World}{c:List Value}{a:C1H}{d:List Value}{b:C1H}(g:Gd.rd w c a)(h:Gd.rd w d b):Cy 78 [(.agg c.toArray),(.agg d.toArray)] w (Val w (.bool (decide (a=b)))):=by
 obtain⟨k,rfl,e⟩:=B8 g;have l:=rM e;obtain⟨m,rfl,f⟩:=B8 h;have n:=rM f;refine enter 17 Tryz.func78 Y Y Y<|Sr (bX Y λo=>?_);refine bX Y λp=>?_
 refine Pe Y<|Dh [bx p [.string b.p5,m],bx o [.string a.p5,k]] Y<|Sr<|fl 1 B6e BK Y<|fl 0 B6e BK Y<|q1 Y (DO Y Y Y)<|p1 Y<|EY 10 Y Y (λi=>?_) λi=>?_
 ·refine fl 1 B6C VN Y<|fl 0 B6C VN Y<|qv A7H Y (λw' j=>RI (rA j e)<|rA j f)<|PE 2 Y<|Ct<|Rb Y Y ?_;show((decide (a.a=b.a)):Bool)=_
  cases a;cases b;simp_all
 ·refine PE 7 Y<|Ct<|Rb Y Y ?_
  cases a;cases b;simp_all
theorem C2R{w:World}{c:List Value}{a:C1L}{d:List Value}{b:C1L}(e:Gd.rd w c a)(f:Gd.rd w d b):Cy 77 [(.agg c.toArray),(.agg d.toArray)] w (Val w (.bool (decide (a=b)))):=by
 obtain⟨o,rfl,i⟩:=A8 e;have u:=rM i;have j:=AK e;obtain⟨p,rfl,k⟩:=A8 f;have v:=rM k;have l:=AK f;refine enter 31 Tryz.func77 Y Y Y<|Sr (bX Y λx=>?_);refine bX Y λn=>?_
 refine Pe Y<|Dh [bx n [iv b.s,.string b.p2.p5,p,.string b.t,.string b.p6],bx x [iv a.s,.string a.p2.p5,o,.string a.t,.string a.p6]] Y<|Sr<|fl 1 C4z CJ Y<|fl 0 C4z CJ Y<|P2 Y Y<|oV 10 Y Y (λg=>?_) λg=>?_
 ·refine q1 Y (Db C4h Y Y (q:=1) Y)<|q1 Y (H2 (es:=[.string a.p2.p5,o]) 1 B8m Y Y Y Y)<|q1 Y (Db C4h Y Y (q:=1) Y)<|q1 Y (H2 (es:=[.string b.p2.p5,p]) 0 B8m Y Y Y Y)<|qv A7G Y (λw' r=>C2C (rA r j)<|rA r l)<|P2 Y Y<|gs 17 Y Y (λm=>?_) λm=>?_
  ·refine fl 1 C5X BK Y<|fl 0 C5X BK Y<|q1 Y (DO Y Y Y)<|P2 Y Y<|EY 24 Y Y (λh=>?_) λh=>?_
   ·refine fl 1 C5S BK Y<|fl 0 C5S BK Y<|q1 Y (DO Y Y Y)<|PE 2 Y<|Ct<|Rb Y Y ?_;show((decide ((a.p6:ByteArray)=b.p6)):Bool)=_
    cases a;cases b;simp_all
   ·refine PE 7 Y<|Ct<|Rb Y Y ?_
    cases a;cases b;simp_all
  ·refine PE 14 Y<|Ct<|Rb Y Y ?_
   cases a;cases b;simp_all
 ·refine PE 21 Y<|Ct<|Rb Y Y ?_
  cases a;cases b;simp_all
theorem MQ{w:World}{c:List Value}{a:C1O}{d:List Value}{b:C1O}(g:Gd.rd w c a)(h:Gd.rd w d b):Cy 44 [(.agg c.toArray),(.agg d.toArray)] w (Val w (.bool (decide (a=b)))):=by
 obtain⟨k,rfl,e⟩:=BQ g;have l:=rM e;obtain⟨m,rfl,f⟩:=BQ h;have n:=rM f;refine enter 17 Tryz.func44 Y Y Y<|Sr (bX Y λo=>?_);refine bX Y λp=>?_
 refine Pe Y<|Dh [bx p [.string b.p7,m],bx o [.string a.p7,k]] Y<|Sr<|fl 1 C5u BK Y<|fl 0 C5u BK Y<|q1 Y (DO Y Y Y)<|p1 Y<|EY 10 Y Y (λi=>?_) λi=>?_
 ·refine fl 1 C5l C2J Y<|fl 0 C5l C2J Y<|qv A7K Y (λw' j=>IZ (rA j e)<|rA j f)<|PE 2 Y<|Ct<|Rb Y Y ?_;show((decide (a.q2=b.q2)):Bool)=_
  cases a;cases b;simp_all
 ·refine PE 7 Y<|Ct<|Rb Y Y ?_
  cases a;cases b;simp_all
theorem A9K{w:World}{c:List Value}{a:C1K}{d:List Value}{b:C1K}(e:Gd.rd w c a)(f:Gd.rd w d b):Cy 40 [(.agg c.toArray),(.agg d.toArray)] w (Val w (.bool (decide (a=b)))):=by
 obtain⟨o,rfl,i⟩:=D2 e;have t:=rM i;have k:=CC e;obtain⟨p,rfl,l⟩:=D2 f;have u:=rM l;have m:=CC f;refine enter 24 Tryz.func40 Y Y Y<|Sr (bX Y λv=>?_);refine bX Y λn=>?_
 refine Pe Y<|Dh [bx n [iv b.s,.string b.p7,.string b.j.p5,p],bx v [iv a.s,.string a.p7,.string a.j.p5,o]] Y<|Sr<|fl 1 C1y CJ Y<|fl 0 C1y CJ Y<|P2 Y Y<|oV 10 Y Y (λg=>?_) λg=>?_
 ·refine fl 1 C1W BK Y<|fl 0 C1W BK Y<|q1 Y (DO Y Y Y)<|P2 Y Y<|EY 17 Y Y (λh=>?_) λh=>?_
  ·refine q1 Y (Db C1S Y Y (q:=2) Y)<|q1 Y (H2 (es:=[.string a.j.p5,o]) 1 C4N Y Y Y Y)<|q1 Y (Db C1S Y Y (q:=2) Y)<|q1 Y (H2 (es:=[.string b.j.p5,p]) 0 C4N Y Y Y Y)<|qv A6z Y (λw' r=>cJ (rA r k)<|rA r m)<|PE 2 Y<|Ct<|Rb Y Y ?_;show((decide (a.j=b.j)):Bool)=_
   cases a;cases b;simp_all
  ·refine PE 7 Y<|Ct<|Rb Y Y ?_
   cases a;cases b;simp_all
 ·refine PE 14 Y<|Ct<|Rb Y Y ?_
  cases a;cases b;simp_all
set_option maxHeartbeats 4000000 in
theorem C2S{w:World}{a7:List Value}{a:C1M}{a8:List Value}{b:C1M}(au:Gd.rd w a7 a)(av:Gd.rd w a8 b):Cy 37 [(.agg a7.toArray),(.agg a8.toArray)] w (Val w (.bool (decide (a=b)))):=by
 obtain⟨u1,u3,rfl,p,g⟩:=BC au;have b6:=rM p;have b7:=rM g;obtain⟨u7,u9,rfl,x,d⟩:=BC av;have aw:=rM x;have ax:=rM d;refine enter 92 Tryz.func37 Y Y Y<|Sr (bX Y λt=>?_);refine bX Y λv=>?_
 refine Pe Y<|Dh [bx v [.string b.y,iv b.p3,u7,u9],bx t [.string a.y,iv a.p3,u1,u3]] Y<|Cq<|Sr<|fl 1 C5t BK Y<|fl 0 C5t BK Y<|q1 Y (E5 Y Y Y)<|p1 Y<|A3C 12 Y Y (λa9=>?_) λa9=>?_
 ·refine PE 24 Y ?_;refine AH [2,3,36] Y<|GF Y<|Sr<|Pe Y<|Ct<|Xr<|Rb Y Y ?_;simp;intro e;subst e;simp_all
 ·refine fl 1 C6L CJ Y<|fl 0 C6L CJ Y<|P3 Y Y Y<|gxn 19 Y Y (λaa=>?_) λaa=>?_
  ·refine PE 17 Y<|AH [2,3,36] Y<|GF Y<|Sr<|p1 Y<|De ?_;refine Xt<|Ct<|Xr<|Rb Y Y ?_;simp;intro e;subst e;simp_all
  ·refine fl 1 C4x C5a Y<|dl C5F Y (AE p)<|fl 0 C4x C5a Y<|dl C5F Y (AE x)<|P3 Y Y Y<|gxn 28 Y Y (λab=>?_) λab=>?_
   ·refine PE 8 Y<|AH [2,3,36] Y<|GF Y<|Sr<|Pe Y<|Ct<|Xr<|Rb Y Y ?_;simp;intro e;subst e;simp_all
   ·refine fl 1 C5B C5s Y<|dl C5g Y (AE g)<|fl 0 C5B C5s Y<|dl C5g Y (AE d)<|PE 2 Y<|AH [2,3,36] Y<|Cn Y (λae=>?_) λae=>?_
    ·refine Sr<|Pe Y<|Ct<|Xr<|Rb Y Y ?_;simp;intro e;subst e;simp_all
    ·refine Sk<|Cq<|Sr<|Pe Y<|Cb<|Cl (λm_ u w'=>∃(k:Nat),(k<=a.q.length)/\(∀i,i<k->a.q[i]?=b.q[i]?)/\m_=a.q.length-k/\Fits u 92 [(2,pv t),(3,pv v),(5,nv k)]/\St w ([bx v [.string b.y,iv b.p3,u7,u9],bx t [.string a.y,iv a.p3,u1,u3]]) w') ?_ ?_
     ·refine λu w' o c=>⟨_,0,?_,?_,Y,o.wk Y,c⟩
      ·first|assumption|omega|simp
      ·intro i hi;omega
     ·rintro m_ u w' ⟨k,hk,hi,rfl,o,c⟩;refine D.use ?_ o c;clear o c u w';refine Cq<|Sr<|p1 Y<|fl 1 C4x C5a Y<|dl C5F Y (AE p)<|Pe Y<|Cd Y (λaf=>?_) λaf=>?_
      ·refine Sk<|Cq<|Cb<|Cq<|A0 mixed [10,11] (by kernel_rfl)<|Tk 0 Y Y (Db C4x Y Y (q:=2) Y)<|Tk 1 Y Y (lb 1 C5a Y Y Y Y)<|tR 2 Y Y ?_;obtain⟨b8,z⟩:=sI a.q k;obtain⟨ay,ag,a0⟩:=AC (n:=5) rfl p z;obtain⟨b9,rfl,ah⟩:=A8 a0;have az:=rM ah;refine Tk 3 Y Y (AJ (l:=a.q) (j:=k) C5F Y Y Y (λw' c=>rA c p) Y<|lS z)<|Tk 4 Y Y (EX C4n Y Y ag)<|Tk 5 Y Y (Db C4x Y Y (q:=2) Y)<|Tk 6 Y Y (lb 0 C5a Y Y Y Y)<|tR 7 Y Y ?_;obtain⟨ba,a1⟩:=sI b.q k;obtain⟨b0,ai,a2⟩:=AC (n:=5) rfl x a1;obtain⟨bb,rfl,aj⟩:=A8 a2;have b1:=rM aj;refine Tk 8 Y Y (AJ (l:=b.q) (j:=k) C5F Y Y Y (λw' c=>rA c x) Y<|lS a1)<|Tk 9 Y Y (EX C4n Y Y ai)<|ty 10 Y Y<|cv A6u Y Y Y Y (λw' c=>C2R (rA c a0)<|rA c a2) ?_;refine tZ Y<|tW 11 Y Y Y<|tE<|Xt<|AH [2,3,5,55] Y<|CN Y (λak=>?_) λak=>?_
       ·refine Sr<|Pe Y<|Ct<|Xq<|Xr<|Xr<|Xq<|Xr<|Rb Y Y ?_;simp;intro e;subst e;simp_all
       ·refine Ck<|Xb<|Xt<|Cr<|p1 Y<|ad (k+1) Y<|Pe Y λu w' o c=>⟨_,?_,k+1,?_,?_,Y,o.wk Y,c⟩
        ·omega
        ·first|assumption|omega|simp
        ·refine DF hi ‹_› ‹_› ?_;first|(simp_all;done)|(apply C1G.mk_eq<;>simp_all)
      ·refine Cx<|Xx<|Xx<|Xe<|Xt<|Cq<|Sr<|Pe Y<|Cb<|Cl (λm_ u w'=>∃(m:Nat),(m<=a.q0.length)/\(∀i,i<m->a.q0[i]?=b.q0[i]?)/\m_=a.q0.length-m/\Fits u 92 [(2,pv t),(3,pv v),(6,nv m)]/\St w ([bx v [.string b.y,iv b.p3,u7,u9],bx t [.string a.y,iv a.p3,u1,u3]]) w') ?_ ?_
       ·refine λu w' o c=>⟨_,0,?_,?_,Y,o.wk Y,c⟩
        ·first|assumption|omega|simp
        ·intro i hi;omega
       ·rintro m_ u w' ⟨m,hm,hj,rfl,o,c⟩;refine D.use ?_ o c;clear o c u w';refine Cq<|Sr<|p1 Y<|fl 1 C5B C5s Y<|dl C5g Y (AE g)<|Pe Y<|Cd Y (λal=>?_) λal=>?_
        ·refine Sk<|Cq<|Cb<|Cq<|A0 mixed [26,27,28] (by kernel_rfl)<|Tk 0 Y Y (Db C5B Y Y (q:=3) Y)<|Tk 1 Y Y (lb 1 C5s Y Y Y Y)<|tR 2 Y Y ?_;obtain⟨bc,r⟩:=sI a.q0 m;obtain⟨b2,a3,a4⟩:=AC (n:=3) rfl g r;obtain⟨bd,rfl,am⟩:=CH a4;have b3:=rM am;have an:=A9 a4;refine Tk 3 Y Y (AJ (l:=a.q0) (j:=m) C5g Y Y Y (λw' c=>rA c g) Y<|lS r)<|Tk 4 Y Y (B2 C5n Y Y)<|Tk 5 Y Y (lr CJ Y Y a3 Y)<|Tk 6 Y Y (Db C5B Y Y (q:=3) Y)<|Tk 7 Y Y (lb 0 C5s Y Y Y Y)<|tR 8 Y Y ?_;obtain⟨be,s⟩:=sI b.q0 m;obtain⟨b4,a5,a6⟩:=AC (n:=3) rfl d s;obtain⟨bf,rfl,ao⟩:=CH a6;have b5:=rM ao;have ap:=A9 a6;refine Tk 9 Y Y (AJ (l:=b.q0) (j:=m) C5g Y Y Y (λw' c=>rA c d) Y<|lS s)<|Tk 10 Y Y (B2 C5n Y Y)<|Tk 11 Y Y (lr CJ Y Y a5 Y)<|tK 15 [12,13] Y<|gxn 76 Y Y (λaq=>?_) λaq=>?_
         ·refine tK 1 [14,15,16,17,18,19,20,21,22,23,24,25,26,27] Y<|tW 28 Y Y Y<|tE<|Xt<|AH [2,3,6,91] Y<|GF Y<|Sr<|Pe Y ?_;refine Ct<|Xq<|Xr<|Xr<|Xq<|Xr<|Rb Y Y ?_;simp;intro e;subst e;simp_all
         ·refine Tk 14 Y Y (Db C5B Y Y (q:=3) Y)<|Tk 15 Y Y (lb 1 C5s Y Y Y Y)<|tR 16 Y Y<|Tk 17 Y Y (AJ (l:=a.q0) (j:=m) C5g Y Y Y (λw' c=>rA c g) Y<|lS r)<|Tk 18 Y Y (B2 C5f Y Y)<|Tk 19 Y Y (EX B8m Y Y<|Q1 (f:=1) (n:=2) a3 Y)<|Tk 20 Y Y (Db C5B Y Y (q:=3) Y)<|Tk 21 Y Y (lb 0 C5s Y Y Y Y)<|tR 22 Y Y<|Tk 23 Y Y (AJ (l:=b.q0) (j:=m) C5g Y Y Y (λw' c=>rA c d) Y<|lS s)<|Tk 24 Y Y (B2 C5f Y Y)<|Tk 25 Y Y (EX B8m Y Y<|Q1 (f:=1) (n:=2) a5 Y)<|ty 26 Y Y<|cv A7G Y Y Y Y (λw' c=>C2C (rA c an)<|rA c ap) ?_;refine tZ Y<|tW 27 Y Y Y<|tW 28 Y Y Y<|tE<|Xt<|AH [2,3,6,91] Y<|CN Y (λar=>?_) λar=>?_
          ·refine Sr<|Pe Y<|Ct<|Xq<|Xr<|Xr<|Xq<|Xr<|Rb Y Y ?_;simp;intro e;subst e;simp_all
          ·refine Ck<|Xb<|Xt<|Cr<|p1 Y<|ad (m+1) Y<|Pe Y λu w' o c=>⟨_,?_,m+1,?_,?_,Y,o.wk Y,c⟩
           ·omega
           ·first|assumption|omega|simp
           ·refine DF hj ‹_› ‹_› ?_;first|(simp_all;done)|(apply Action.mk_eq<;>simp_all)
        ·refine Cx<|Xx<|Xx<|Xe<|Xt<|Sr<|Pe Y<|Ct<|Rb Y Y ?_;simp;exact C1M.mk_eq ‹_› ‹_› (C7 (by omega) (λi h=>hi i (by omega))) (C7 (by omega) (λi h=>hj i (by omega)))
set_option maxHeartbeats 4000000 in
theorem C2M{w:World}{b0:List Value}{a:C1P}{b1:List Value}{b:C1P}(bt:Gd.rd w b0 a)(bu:Gd.rd w b1 b):Cy 10 [(.agg b0.toArray),(.agg b1.toArray)] w (Val w (.bool (decide (a=b)))):=by
 obtain⟨u1,u3,u5,u7,rfl,a1,z,a0,a2⟩:=C6 bt;have cq:=rM a1;have c1:=rM z;have c2:=rM a0;have c3:=rM a2;obtain⟨a3,a4,a5,a6,rfl,x,t,v,y⟩:=C6 bu;have c4:=rM x;have c5:=rM t;have c6:=rM v;have c7:=rM y;refine enter 167 Tryz.func10 Y Y Y<|Sr (bX Y λr=>?_);refine bX Y λs=>?_
 refine Pe Y<|Dh [bx s [a3,a4,iv b.g,a5,.bool b.p,a6],bx r [u1,u3,iv a.g,u5,.bool a.p,u7]] Y<|Cq<|Sr<|fl 1 C5h A3Z Y<|dl lW Y (AE a1)<|fl 0 C5h A3Z Y<|dl lW Y (AE x)<|P2 Y Y<|gxn 16 Y Y (λb2=>?_) λb2=>?_
 ·refine n1 Y<|n1 Y<|n1 Y<|n1 Y<|n1 Y<|n1 Y<|n1 Y<|P2 Y Y<|n1 Y<|n1 Y<|n1 Y<|n1 Y<|n1 Y<|n1 Y<|n1 Y<|P2 Y Y<|n1 Y<|n1 Y<|n1 Y<|n1 Y<|n1 Y<|n1 Y<|n1 Y<|P2 Y Y ?_;refine PE 13 Y<|AH [2,3,56] Y<|GF Y<|Sr<|Pe Y<|Ct<|Xr<|Rb Y Y ?_;simp;intro e;subst e;simp_all
 ·refine fl 1 C4l A3a Y<|dl lZ Y (AE z)<|fl 0 C4l A3a Y<|dl lZ Y (AE t)<|P3 Y Y Y<|gxn 25 Y Y (λb3=>?_) λb3=>?_
  ·refine n1 Y<|n1 Y<|n1 Y<|n1 Y<|n1 Y<|n1 Y<|n1 Y<|P2 Y Y<|n1 Y<|n1 Y<|n1 Y<|n1 Y<|n1 Y<|n1 Y<|n1 Y<|P2 Y Y<|n1 Y<|n1 Y<|n1 Y<|n1 Y<|n1 Y<|P2 Y Y<|n1 Y<|n1 Y ?_;refine PE 4 Y<|AH [2,3,56] Y<|GF Y<|Sr<|Pe Y<|Ct<|Xr<|Rb Y Y ?_;simp;intro e;subst e;simp_all
  ·refine fl 1 C5G C6A Y<|dl C5k Y (AE a0)<|fl 0 C5G C6A Y<|dl C5k Y (AE v)<|P3 Y Y Y<|gxn 34 Y Y (λb4=>?_) λb4=>?_
   ·refine PE 22 Y<|AH [2,3,56] Y<|GF Y ?_;refine Sr<|Pe Y<|Ct<|Xr<|Rb Y Y ?_;simp;intro e;subst e;simp_all
   ·refine fl 1 C4O C5U Y<|dl C4v Y (AE a2)<|fl 0 C4O C5U Y<|dl C4v Y (AE y)<|P3 Y Y Y<|gxn 43 Y Y (λb5=>?_) λb5=>?_
    ·refine PE 13 Y<|AH [2,3,56] Y<|GF Y<|Sr<|Pe Y<|Ct<|Xr<|Rb Y Y ?_;simp;intro e;subst e;simp_all
    ·refine fl 1 C5W CJ Y<|fl 0 C5W CJ Y<|P3 Y Y Y<|gxn 50 Y Y (λb6=>?_) λb6=>?_
     ·refine PE 6 Y<|AH [2,3,56] Y<|GF Y<|Sr<|Pe Y<|Ct<|Xr<|Rb Y Y ?_;simp;intro e;subst e;simp_all
     ·refine fl 1 C6R o_4 Y<|fl 0 C6R o_4 Y<|q1 Y (A2x A6m Y Y Y)<|Pe Y<|AH [2,3,56] Y<|Ci _ Y (λb7=>?_) λb7=>?_
      ·refine Sr<|Pe Y<|Ct<|Xr<|Rb Y Y ?_;simp;intro e;subst e;simp_all
      ·have c8:=fC b7;refine Sk<|Cq<|Sr<|Pe Y<|Cb<|Cl (λm_ o w'=>∃(k:Nat),(k<=a.p8.length)/\(∀i,i<k->a.p8[i]?=b.p8[i]?)/\m_=a.p8.length-k/\Fits o 167 [(2,pv r),(3,pv s),(5,nv k)]/\St w ([bx s [a3,a4,iv b.g,a5,.bool b.p,a6],bx r [u1,u3,iv a.g,u5,.bool a.p,u7]]) w') ?_ ?_
       ·refine λo w' d c=>⟨_,0,?_,?_,Y,d.wk Y,c⟩
        ·first|assumption|omega|simp
        ·intro i hi;omega
       ·rintro m_ o w' ⟨k,hk,hi,rfl,d,c⟩;refine D.use ?_ d c;clear d c o w';refine Cq<|Sr<|p1 Y<|fl 1 C5h A3Z Y<|dl lW Y (AE a1)<|Pe Y<|Cd Y (λb8=>?_) λb8=>?_
        ·refine Sk<|Cq<|Cb<|Cq<|A0 mixed [10,11] (by kernel_rfl)<|Tk 0 Y Y (Db C5h Y Y (q:=0) Y)<|Tk 1 Y Y (lb 1 A3Z Y Y Y Y)<|tR 2 Y Y ?_;obtain⟨cr,ag⟩:=sI a.p8 k;obtain⟨c9,b9,ah⟩:=AC (n:=4) rfl a1 ag;obtain⟨cs,ct,rfl,ba,bb⟩:=BC ah;have ca:=rM ba;have cb:=rM bb;refine Tk 3 Y Y (AJ (l:=a.p8) (j:=k) lW Y Y Y (λw' c=>rA c a1) Y<|lS ag)<|Tk 4 Y Y (EX C5D Y Y b9)<|Tk 5 Y Y (Db C5h Y Y (q:=0) Y)<|Tk 6 Y Y (lb 0 A3Z Y Y Y Y)<|tR 7 Y Y ?_;obtain⟨cu,ai⟩:=sI b.p8 k;obtain⟨cc,bc,aj⟩:=AC (n:=4) rfl x ai;obtain⟨cw,cx,rfl,bd,be⟩:=BC aj;have cd:=rM bd;have ce:=rM be;refine Tk 8 Y Y (AJ (l:=b.p8) (j:=k) lW Y Y Y (λw' c=>rA c x) Y<|lS ai)<|Tk 9 Y Y (EX C5D Y Y bc)<|ty 10 Y Y<|cv A7E Y Y Y Y (λw' c=>C2S (rA c ah)<|rA c aj) ?_;refine tZ Y<|tW 11 Y Y Y<|tE<|Xt<|AH [2,3,5,75] Y<|CN Y (λbf=>?_) λbf=>?_
         ·refine Sr<|Pe Y<|Ct<|Xq<|Xr<|Xr<|Xq<|Xr<|Rb Y Y ?_;simp;intro e;subst e;simp_all
         ·refine Ck<|Xb<|Xt<|Cr<|p1 Y<|ad (k+1) Y<|Pe Y λo w' d c=>⟨_,?_,k+1,?_,?_,Y,d.wk Y,c⟩
          ·omega
          ·first|assumption|omega|simp
          ·refine DF hi ‹_› ‹_› ?_;first|(simp_all;done)|(apply C1G.mk_eq<;>simp_all)
        ·refine Cx<|Xx<|Xx<|Xe<|Xt<|Cq<|Sr<|Pe Y<|Cb<|Cl (λm_ o w'=>∃(m:Nat),(m<=a.w.length)/\(∀i,i<m->a.w[i]?=b.w[i]?)/\m_=a.w.length-m/\Fits o 167 [(2,pv r),(3,pv s),(6,nv m)]/\St w ([bx s [a3,a4,iv b.g,a5,.bool b.p,a6],bx r [u1,u3,iv a.g,u5,.bool a.p,u7]]) w') ?_ ?_
         ·refine λo w' d c=>⟨_,0,?_,?_,Y,d.wk Y,c⟩
          ·first|assumption|omega|simp
          ·intro i hi;omega
         ·rintro m_ o w' ⟨m,hm,hj,rfl,d,c⟩;refine D.use ?_ d c;clear d c o w';refine Cq<|Sr<|p1 Y<|fl 1 C4l A3a Y<|dl lZ Y (AE z)<|Pe Y<|Cd Y (λbg=>?_) λbg=>?_
          ·refine Sk<|Cq<|Cb<|Cq<|A0 mixed [26,27,28] (by kernel_rfl)<|Tk 0 Y Y (Db C4l Y Y (q:=1) Y)<|Tk 1 Y Y (lb 1 A3a Y Y Y Y)<|tR 2 Y Y ?_;obtain⟨cy,a7⟩:=sI a.w m;obtain⟨cf,ak,al⟩:=AC (n:=3) rfl z a7;obtain⟨cz,rfl,bh⟩:=B9 al;have cg:=rM bh;have bi:=BE al;refine Tk 3 Y Y (AJ (l:=a.w) (j:=m) lZ Y Y Y (λw' c=>rA c z) Y<|lS a7)<|Tk 4 Y Y (B2 L4 Y Y)<|Tk 5 Y Y (lr CJ Y Y ak Y)<|Tk 6 Y Y (Db C4l Y Y (q:=1) Y)<|Tk 7 Y Y (lb 0 A3a Y Y Y Y)<|tR 8 Y Y ?_;obtain⟨d0,a8⟩:=sI b.w m;obtain⟨ch,am,an⟩:=AC (n:=3) rfl t a8;obtain⟨d1,rfl,bj⟩:=B9 an;have ci:=rM bj;have bk:=BE an;refine Tk 9 Y Y (AJ (l:=b.w) (j:=m) lZ Y Y Y (λw' c=>rA c t) Y<|lS a8)<|Tk 10 Y Y (B2 L4 Y Y)<|Tk 11 Y Y (lr CJ Y Y am Y)<|tK 15 [12,13] Y<|gxn 96 Y Y (λbl=>?_) λbl=>?_
           ·refine tK 1 [14,15,16,17,18,19,20,21,22,23,24,25,26,27] Y<|tW 28 Y Y Y<|tE<|Xt<|AH [2,3,6,111] Y<|GF Y<|Sr<|Pe Y ?_;refine Ct<|Xq<|Xr<|Xr<|Xq<|Xr<|Rb Y Y ?_;simp;intro e;subst e;simp_all
           ·refine Tk 14 Y Y (Db C4l Y Y (q:=1) Y)<|Tk 15 Y Y (lb 1 A3a Y Y Y Y)<|tR 16 Y Y<|Tk 17 Y Y (AJ (l:=a.w) (j:=m) lZ Y Y Y (λw' c=>rA c z) Y<|lS a7)<|Tk 18 Y Y (B2 JK Y Y)<|Tk 19 Y Y (EX C4N Y Y<|Q1 (f:=0) (n:=2) ak Y)<|Tk 20 Y Y (Db C4l Y Y (q:=1) Y)<|Tk 21 Y Y (lb 0 A3a Y Y Y Y)<|tR 22 Y Y<|Tk 23 Y Y (AJ (l:=b.w) (j:=m) lZ Y Y Y (λw' c=>rA c t) Y<|lS a8)<|Tk 24 Y Y (B2 JK Y Y)<|Tk 25 Y Y (EX C4N Y Y<|Q1 (f:=0) (n:=2) am Y)<|ty 26 Y Y<|cv A6z Y Y Y Y (λw' c=>cJ (rA c bi)<|rA c bk) ?_;refine tZ Y<|tW 27 Y Y Y<|tW 28 Y Y Y<|tE<|Xt<|AH [2,3,6,111] Y<|CN Y (λbm=>?_) λbm=>?_
            ·refine Sr<|Pe Y<|Ct<|Xq<|Xr<|Xr<|Xq<|Xr<|Rb Y Y ?_;simp;intro e;subst e;simp_all
            ·refine Ck<|Xb<|Xt<|Cr<|p1 Y<|ad (m+1) Y<|Pe Y λo w' d c=>⟨_,?_,m+1,?_,?_,Y,d.wk Y,c⟩
             ·omega
             ·first|assumption|omega|simp
             ·refine DF hj ‹_› ‹_› ?_;first|(simp_all;done)|(apply C1N.mk_eq<;>simp_all)
          ·refine Cx<|Xx<|Xx<|Xe<|Xt<|Cq<|Sr<|Pe Y<|Cb<|Cl (λm_ o w'=>∃(p:Nat),(p<=a.m.length)/\(∀i,i<p->a.m[i]?=b.m[i]?)/\m_=a.m.length-p/\Fits o 167 [(2,pv r),(3,pv s),(7,nv p)]/\St w ([bx s [a3,a4,iv b.g,a5,.bool b.p,a6],bx r [u1,u3,iv a.g,u5,.bool a.p,u7]]) w') ?_ ?_
           ·refine λo w' d c=>⟨_,0,?_,?_,Y,d.wk Y,c⟩
            ·first|assumption|omega|simp
            ·intro i hi;omega
           ·rintro m_ o w' ⟨p,hp,hu,rfl,d,c⟩;refine D.use ?_ d c;clear d c o w';refine Cq<|Sr<|p1 Y<|fl 1 C5G C6A Y<|dl C5k Y (AE a0)<|Pe Y<|Cd Y (λbn=>?_) λbn=>?_
            ·refine Sk<|Cq<|Cb<|Cq<|A0 mixed [26,27,28] (by kernel_rfl)<|Tk 0 Y Y (Db C5G Y Y (q:=3) Y)<|Tk 1 Y Y (lb 1 C6A Y Y Y Y)<|tR 2 Y Y ?_;obtain⟨d2,a9⟩:=sI a.m p;obtain⟨cj,ao,bo⟩:=AC (n:=2) rfl a0 a9;obtain⟨d3,rfl,ap⟩:=BQ bo;have ck:=rM ap;refine Tk 3 Y Y (AJ (l:=a.m) (j:=p) C5k Y Y Y (λw' c=>rA c a0) Y<|lS a9)<|Tk 4 Y Y (B2 C5u Y Y)<|Tk 5 Y Y (lr BK Y Y ao Y)<|Tk 6 Y Y (Db C5G Y Y (q:=3) Y)<|Tk 7 Y Y (lb 0 C6A Y Y Y Y)<|tR 8 Y Y ?_;obtain⟨d4,aa⟩:=sI b.m p;obtain⟨cl,aq,bp⟩:=AC (n:=2) rfl v aa;obtain⟨d5,rfl,ar⟩:=BQ bp;have cm:=rM ar;refine Tk 9 Y Y (AJ (l:=b.m) (j:=p) C5k Y Y Y (λw' c=>rA c v) Y<|lS aa)<|Tk 10 Y Y (B2 C5u Y Y)<|Tk 11 Y Y (lr BK Y Y aq Y)<|Tk 12 Y Y (E5 Y Y Y)<|tR 13 Y Y<|A3C 132 Y Y (λbq=>?_) λbq=>?_
             ·refine tK 1 [14,15,16,17,18,19,20,21,22,23,24,25,26,27] Y<|tW 28 Y Y Y<|tE<|Xt<|AH [2,3,7,147] Y<|GF Y<|Sr<|Pe Y ?_;refine Ct<|Xq<|Xr<|Xr<|Xq<|Xr<|Rb Y Y ?_;simp;intro e;subst e;simp_all
             ·refine Tk 14 Y Y (Db C5G Y Y (q:=3) Y)<|Tk 15 Y Y (lb 1 C6A Y Y Y Y)<|tR 16 Y Y<|Tk 17 Y Y (AJ (l:=a.m) (j:=p) C5k Y Y Y (λw' c=>rA c a0) Y<|lS a9)<|Tk 18 Y Y (B2 C5l Y Y)<|Tk 19 Y Y (lr C2J Y Y ao Y)<|Tk 20 Y Y (Db C5G Y Y (q:=3) Y)<|Tk 21 Y Y (lb 0 C6A Y Y Y Y)<|tR 22 Y Y<|Tk 23 Y Y (AJ (l:=b.m) (j:=p) C5k Y Y Y (λw' c=>rA c v) Y<|lS aa)<|Tk 24 Y Y (B2 C5l Y Y)<|Tk 25 Y Y (lr C2J Y Y aq Y)<|ty 26 Y Y<|cv B3y Y Y Y Y (λw' c=>MP (rA c ap)<|rA c ar) ?_;refine tZ Y<|tW 27 Y Y Y<|tW 28 Y Y Y<|tE<|Xt<|AH [2,3,7,147] Y<|CN Y (λbr=>?_) λbr=>?_
              ·refine Sr<|Pe Y<|Ct<|Xq<|Xr<|Xr<|Xq<|Xr<|Rb Y Y ?_;simp;intro e;subst e;simp_all
              ·refine Ck<|Xb<|Xt<|Cr<|p1 Y<|ad (p+1) Y<|Pe Y λo w' d c=>⟨_,?_,p+1,?_,?_,Y,d.wk Y,c⟩
               ·omega
               ·first|assumption|omega|simp
               ·refine DF hu ‹_› ‹_› ?_;first|(simp_all;done)|(apply C1O.mk_eq<;>simp_all)
            ·refine Cx<|Xx<|Xx<|Xe<|Xt<|Cq<|Sr<|Pe Y<|Cb<|Cl (λm_ o w'=>∃(q:Nat),(q<=a.u.length)/\(∀i,i<q->a.u[i]?=b.u[i]?)/\m_=a.u.length-q/\Fits o 167 [(2,pv r),(3,pv s),(8,nv q)]/\St w ([bx s [a3,a4,iv b.g,a5,.bool b.p,a6],bx r [u1,u3,iv a.g,u5,.bool a.p,u7]]) w') ?_ ?_
             ·refine λo w' d c=>⟨_,0,?_,?_,Y,d.wk Y,c⟩
              ·first|assumption|omega|simp
              ·intro i hi;omega
             ·rintro m_ o w' ⟨q,hq,hv,rfl,d,c⟩;refine D.use ?_ d c;clear d c o w';refine Cq<|Sr<|p1 Y<|fl 1 C4O C5U Y<|dl C4v Y (AE a2)<|Pe Y<|Cd Y (λbs=>?_) λbs=>?_
              ·refine Sk<|Cq<|Cb<|Cq<|A0 mixed [10,11] (by kernel_rfl)<|Tk 0 Y Y (Db C4O Y Y (q:=5) Y)<|Tk 1 Y Y (lb 1 C5U Y Y Y Y)<|tR 2 Y Y ?_;obtain⟨d6,au⟩:=sI a.u q;obtain⟨bv,av,ab⟩:=AC (n:=4) rfl a2 au;obtain⟨cn,rfl,aw⟩:=D2 ab;have bw:=rM aw;refine Tk 3 Y Y (AJ (l:=a.u) (j:=q) C4v Y Y Y (λw' c=>rA c a2) Y<|lS au)<|Tk 4 Y Y (EX C2U Y Y av)<|Tk 5 Y Y (Db C4O Y Y (q:=5) Y)<|Tk 6 Y Y (lb 0 C5U Y Y Y Y)<|tR 7 Y Y ?_;obtain⟨co,ae⟩:=sI b.u q;obtain⟨bz,ax,af⟩:=AC (n:=4) rfl y ae;obtain⟨cp,rfl,ay⟩:=D2 af;have c0:=rM ay;refine Tk 8 Y Y (AJ (l:=b.u) (j:=q) C4v Y Y Y (λw' c=>rA c y) Y<|lS ae)<|Tk 9 Y Y (EX C2U Y Y ax)<|ty 10 Y Y<|cv A6d Y Y Y Y (λw' c=>A9K (rA c ab)<|rA c af) ?_;refine tZ Y<|tW 11 Y Y Y<|tE<|Xt<|AH [2,3,8,166] Y<|CN Y (λaz=>?_) λaz=>?_
               ·refine Sr<|Pe Y<|Ct<|Xq<|Xr<|Xr<|Xq<|Xr<|Rb Y Y ?_;simp;intro e;subst e;simp_all
               ·refine Ck<|Xb<|Xt<|Cr<|p1 Y<|ad (q+1) Y<|Pe Y λo w' d c=>⟨_,?_,q+1,?_,?_,Y,d.wk Y,c⟩
                ·omega
                ·first|assumption|omega|simp
                ·refine DF hv ‹_› ‹_› ?_;first|(simp_all;done)|(apply C1G.mk_eq<;>simp_all)
              ·refine Cx<|Xx<|Xx<|Xe<|Xt<|Sr<|Pe Y<|Ct<|Rb Y Y ?_;simp;exact C1P.mk_eq (C7 (by omega) (λi h=>hi i (by omega))) (C7 (by omega) (λi h=>hj i (by omega))) (by simp_all) (C7 (by omega) (λi h=>hu i (by omega))) (by simp_all) (C7 (by omega) (λi h=>hv i (by omega)))
end Go.Sy.Ev3
