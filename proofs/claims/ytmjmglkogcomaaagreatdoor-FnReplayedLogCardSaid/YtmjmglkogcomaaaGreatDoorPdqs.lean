/-
  Contracts of functions of the program, walked (printed by a program of ours).
  Conditions: those that each theorem states.
-/
import Derived.Test.YtmjmglkogcomaaaGreatDoorProg
import Derived.Test.YtmjmglkogcomaaaGreatDoorChs
section
set_option linter.unusedVariables false
set_option maxRecDepth 20000
namespace Go.Sy.Ev3
open Go Go.RowKit Go.Proofs Go.Sy
open Go.Sy.Bel1 Go.Sy.Ev1
theorem UE{w:World}{m:Value}{a:(List ByteArray)}{o:Value}{b:(List ByteArray)}(c:Gd.rd w [m] a)(f:Gd.rd w [o] b):Cy 84 [m,o] w (Val w (.bool (decide (a=b)))):=by
 have a3:=rM c;have a4:=rM f;refine enter 26 Tryz.func84 Y Y Y<|Sr<|Pe Y<|Cq<|Sr<|p1 Y<|dl HJ Y (AE c)<|p1 Y<|dl HJ Y (AE f)<|Pe Y<|Cn Y (λx=>?_) λx=>?_
 ·refine Sr<|Pe Y<|Ct<|Xr<|Rb Y Y ?_;simp;intro e;subst e;simp_all
 ·refine Sk<|Cq<|Sr<|p1 Y<|dl HJ Y (AE c)<|Pe Y<|Cb<|Cl (λm_ v w'=>∃(k:Nat),(k<=a.length)/\(∀i,i<k->a[i]?=b[i]?)/\m_=a.length-k/\Fits v 26 [(0,m),(1,o),(12,nv a.length),(13,nv k)]/\St w ([]) w') ?_ ?_
  ·refine λv w' p d=>⟨_,0,?_,?_,Y,p.wk Y,d⟩
   ·omega
   ·intro i hi;omega
  ·rintro m_ v w' ⟨k,hk,hi,rfl,p,d⟩;refine D.use ?_ p d;clear p d v w';refine Sr<|Pe Y<|Cq<|Cd Y (λy=>?_) λy=>?_
   ·refine Sk<|Cq<|Cb<|Sr<|PE 2 Y<|Cq<|A0 mixed [] (by kernel_rfl)<|tK 7 [0,1] Y ?_;obtain⟨x5,q⟩:=sI a k;obtain⟨z,a2,a0⟩:=AC (n:=1) rfl c q;obtain rfl:z=[.string x5]:=a0;refine Tk 2 Y Y (AJ (l:=a) (j:=k) HJ Y Y Y (λw' d=>rA d c) Y<|lS q)<|Tk 3 Y Y (HI BK Y Y a2 Y)<|tK 3 [4,5] Y ?_;obtain⟨a1,g⟩:=sI b k;obtain⟨r,s,t⟩:=AC (n:=1) rfl f g;obtain rfl:r=[.string a1]:=t;refine Tk 6 Y Y (AJ (l:=b) (j:=k) HJ Y Y Y (λw' d=>rA d f) Y<|lS g)<|Tk 7 Y Y (HI BK Y Y s Y)<|Tk 8 Y Y (E5 Y Y Y)<|tE<|Xt<|R8 Y (λu=>?_) λu=>?_
    ·refine Sr<|Pe Y<|Ct<|Xq<|Xr<|Xr<|Xq<|Xr<|Rb Y Y ?_;simp;intro e;subst e;simp_all
    ·refine Ck<|Xb<|Xt<|Cr<|ad (k+1) Y<|Pe Y λv w' p d=>⟨_,?_,k+1,?_,?_,Y,p.wk Y,d⟩
     ·omega
     ·omega
     ·refine DF hi ‹_› ‹_› ?_;simp_all
   ·refine Cx<|Xx<|Xx<|Xe<|Xt<|Sr<|Pe Y<|Ct<|Rb Y Y ?_;simp;exact C7 (by omega) (λi h=>hi i (by omega))
theorem IZ{w:World}{m:Value}{a:(List Int)}{o:Value}{b:(List Int)}(c:Gd.rd w [m] a)(f:Gd.rd w [o] b):Cy 83 [m,o] w (Val w (.bool (decide (a=b)))):=by
 have a3:=rM c;have a4:=rM f;refine enter 26 Tryz.func83 Y Y Y<|Sr<|Pe Y<|Cq<|Sr<|p1 Y<|dl C1s Y (AE c)<|p1 Y<|dl C1s Y (AE f)<|Pe Y<|Cn Y (λx=>?_) λx=>?_
 ·refine Sr<|Pe Y<|Ct<|Xr<|Rb Y Y ?_;simp;intro e;subst e;simp_all
 ·refine Sk<|Cq<|Sr<|p1 Y<|dl C1s Y (AE c)<|Pe Y<|Cb<|Cl (λm_ v w'=>∃(k:Nat),(k<=a.length)/\(∀i,i<k->a[i]?=b[i]?)/\m_=a.length-k/\Fits v 26 [(0,m),(1,o),(12,nv a.length),(13,nv k)]/\St w ([]) w') ?_ ?_
  ·refine λv w' p d=>⟨_,0,?_,?_,Y,p.wk Y,d⟩
   ·omega
   ·intro i hi;omega
  ·rintro m_ v w' ⟨k,hk,hi,rfl,p,d⟩;refine D.use ?_ p d;clear p d v w';refine Sr<|Pe Y<|Cq<|Cd Y (λy=>?_) λy=>?_
   ·refine Sk<|Cq<|Cb<|Sr<|PE 2 Y<|Cq<|A0 mixed [] (by kernel_rfl)<|tK 7 [0,1] Y ?_;obtain⟨x5,q⟩:=sI a k;obtain⟨z,a2,a0⟩:=AC (n:=1) rfl c q;obtain rfl:z=[.int .i64 x5]:=a0;refine Tk 2 Y Y (AJ (l:=a) (j:=k) C1s Y Y Y (λw' d=>rA d c) Y<|lS q)<|Tk 3 Y Y (HI CJ Y Y a2 Y)<|tK 3 [4,5] Y ?_;obtain⟨a1,g⟩:=sI b k;obtain⟨r,s,t⟩:=AC (n:=1) rfl f g;obtain rfl:r=[.int .i64 a1]:=t;refine Tk 6 Y Y (AJ (l:=b) (j:=k) C1s Y Y Y (λw' d=>rA d f) Y<|lS g)<|Tk 7 Y Y (HI CJ Y Y s Y)<|tR 8 Y Y<|tE<|Xt<|Cn Y (λu=>?_) λu=>?_
    ·refine Sr<|Pe Y<|Ct<|Xq<|Xr<|Xr<|Xq<|Xr<|Rb Y Y ?_;simp;intro e;subst e;simp_all
    ·refine Ck<|Xb<|Xt<|Cr<|ad (k+1) Y<|Pe Y λv w' p d=>⟨_,?_,k+1,?_,?_,Y,p.wk Y,d⟩
     ·omega
     ·omega
     ·refine DF hi ‹_› ‹_› ?_;simp_all
   ·refine Cx<|Xx<|Xx<|Xe<|Xt<|Sr<|Pe Y<|Ct<|Rb Y Y ?_;simp;exact C7 (by omega) (λi h=>hi i (by omega))
theorem RI{w:World}{m:Value}{a:(List ByteArray)}{o:Value}{b:(List ByteArray)}(c:Gd.rd w [m] a)(f:Gd.rd w [o] b):Cy 79 [m,o] w (Val w (.bool (decide (a=b)))):=by
 have a3:=rM c;have a4:=rM f;refine enter 26 Tryz.func79 Y Y Y<|Sr<|Pe Y<|Cq<|Sr<|p1 Y<|dl HJ Y (AE c)<|p1 Y<|dl HJ Y (AE f)<|Pe Y<|Cn Y (λx=>?_) λx=>?_
 ·refine Sr<|Pe Y<|Ct<|Xr<|Rb Y Y ?_;simp;intro e;subst e;simp_all
 ·refine Sk<|Cq<|Sr<|Pe Y<|Cb<|Cl (λm_ v w'=>∃(k:Nat),(k<=a.length)/\(∀i,i<k->a[i]?=b[i]?)/\m_=a.length-k/\Fits v 26 [(0,m),(1,o),(5,nv k)]/\St w ([]) w') ?_ ?_
  ·refine λv w' p d=>⟨_,0,?_,?_,Y,p.wk Y,d⟩
   ·omega
   ·intro i hi;omega
  ·rintro m_ v w' ⟨k,hk,hi,rfl,p,d⟩;refine D.use ?_ p d;clear p d v w';refine Cq<|Sr<|P2 Y Y<|dl HJ Y (AE c)<|Pe Y<|Cd Y (λy=>?_) λy=>?_
   ·refine Sk<|Cq<|Cb<|Cq<|A0 mixed [] (by kernel_rfl)<|tK 7 [0,1] Y ?_;obtain⟨x5,q⟩:=sI a k;obtain⟨z,a2,a0⟩:=AC (n:=1) rfl c q;obtain rfl:z=[.string x5]:=a0;refine Tk 2 Y Y (AJ (l:=a) (j:=k) HJ Y Y Y (λw' d=>rA d c) Y<|lS q)<|Tk 3 Y Y (HI BK Y Y a2 Y)<|tK 3 [4,5] Y ?_;obtain⟨a1,g⟩:=sI b k;obtain⟨r,s,t⟩:=AC (n:=1) rfl f g;obtain rfl:r=[.string a1]:=t;refine Tk 6 Y Y (AJ (l:=b) (j:=k) HJ Y Y Y (λw' d=>rA d f) Y<|lS g)<|Tk 7 Y Y (HI BK Y Y s Y)<|Tk 8 Y Y (E5 Y Y Y)<|tE<|Xt<|R8 Y (λu=>?_) λu=>?_
    ·refine Sr<|Pe Y<|Ct<|Xq<|Xr<|Xr<|Xq<|Xr<|Rb Y Y ?_;simp;intro e;subst e;simp_all
    ·refine Ck<|Xb<|Xt<|Cr<|p1 Y<|ad (k+1) Y<|Pe Y λv w' p d=>⟨_,?_,k+1,?_,?_,Y,p.wk Y,d⟩
     ·omega
     ·omega
     ·refine DF hi ‹_› ‹_› ?_;simp_all
   ·refine Cx<|Xx<|Xx<|Xe<|Xt<|Sr<|Pe Y<|Ct<|Rb Y Y ?_;simp;exact C7 (by omega) (λi h=>hi i (by omega))
theorem MP{w:World}{m:Value}{a:(List Int)}{o:Value}{b:(List Int)}(c:Gd.rd w [m] a)(f:Gd.rd w [o] b):Cy 39 [m,o] w (Val w (.bool (decide (a=b)))):=by
 have a3:=rM c;have a4:=rM f;refine enter 26 Tryz.func39 Y Y Y<|Sr<|Pe Y<|Cq<|Sr<|p1 Y<|dl C1s Y (AE c)<|p1 Y<|dl C1s Y (AE f)<|Pe Y<|Cn Y (λx=>?_) λx=>?_
 ·refine Sr<|Pe Y<|Ct<|Xr<|Rb Y Y ?_;simp;intro e;subst e;simp_all
 ·refine Sk<|Cq<|Sr<|Pe Y<|Cb<|Cl (λm_ v w'=>∃(k:Nat),(k<=a.length)/\(∀i,i<k->a[i]?=b[i]?)/\m_=a.length-k/\Fits v 26 [(0,m),(1,o),(5,nv k)]/\St w ([]) w') ?_ ?_
  ·refine λv w' p d=>⟨_,0,?_,?_,Y,p.wk Y,d⟩
   ·omega
   ·intro i hi;omega
  ·rintro m_ v w' ⟨k,hk,hi,rfl,p,d⟩;refine D.use ?_ p d;clear p d v w';refine Cq<|Sr<|P2 Y Y<|dl C1s Y (AE c)<|Pe Y<|Cd Y (λy=>?_) λy=>?_
   ·refine Sk<|Cq<|Cb<|Cq<|A0 mixed [] (by kernel_rfl)<|tK 7 [0,1] Y ?_;obtain⟨x5,q⟩:=sI a k;obtain⟨z,a2,a0⟩:=AC (n:=1) rfl c q;obtain rfl:z=[.int .i64 x5]:=a0;refine Tk 2 Y Y (AJ (l:=a) (j:=k) C1s Y Y Y (λw' d=>rA d c) Y<|lS q)<|Tk 3 Y Y (HI CJ Y Y a2 Y)<|tK 3 [4,5] Y ?_;obtain⟨a1,g⟩:=sI b k;obtain⟨r,s,t⟩:=AC (n:=1) rfl f g;obtain rfl:r=[.int .i64 a1]:=t;refine Tk 6 Y Y (AJ (l:=b) (j:=k) C1s Y Y Y (λw' d=>rA d f) Y<|lS g)<|Tk 7 Y Y (HI CJ Y Y s Y)<|tR 8 Y Y<|tE<|Xt<|Cn Y (λu=>?_) λu=>?_
    ·refine Sr<|Pe Y<|Ct<|Xq<|Xr<|Xr<|Xq<|Xr<|Rb Y Y ?_;simp;intro e;subst e;simp_all
    ·refine Ck<|Xb<|Xt<|Cr<|p1 Y<|ad (k+1) Y<|Pe Y λv w' p d=>⟨_,?_,k+1,?_,?_,Y,p.wk Y,d⟩
     ·omega
     ·omega
     ·refine DF hi ‹_› ‹_› ?_;simp_all
   ·refine Cx<|Xx<|Xx<|Xe<|Xt<|Sr<|Pe Y<|Ct<|Rb Y Y ?_;simp;exact C7 (by omega) (λi h=>hi i (by omega))
theorem OU{w:World}{c:List Value}{a:C1G}{d:List Value}{b:C1G}(g:Gd.rd w c a)(h:Gd.rd w d b):Cy 46 [(.agg c.toArray),(.agg d.toArray)] w (Val w (.bool (decide (a=b)))):=by
 obtain⟨k,rfl,e⟩:=AS g;have l:=rM e;obtain⟨m,rfl,f⟩:=AS h;have n:=rM f;refine enter 17 Tryz.func46 Y Y Y<|Sr (bX Y λp=>?_);refine bX Y λo=>?_
 refine Pe Y<|Dh [bx o [.string b.p5,m],bx p [.string a.p5,k]] Y<|Sr<|fl 1 C5V BK Y<|fl 0 C5V BK Y<|q1 Y (DO Y Y Y)<|p1 Y<|EY 10 Y Y (λi=>?_) λi=>?_
 ·refine fl 1 C4Q VN Y<|fl 0 C4Q VN Y<|qv A6Q Y (λw' j=>UE (rA j e)<|rA j f)<|PE 2 Y<|Ct<|Rb Y Y ?_;show((decide (a.a=b.a)):Bool)=_
  cases a;cases b;simp_all
 ·refine PE 7 Y<|Ct<|Rb Y Y ?_
  cases a;cases b;simp_all
theorem cJ{w:World}{c:List Value}{a:C1G}{d:List Value}{b:C1G}(g:Gd.rd w c a)(h:Gd.rd w d b):Cy 38 [(.agg c.toArray),(.agg d.toArray)] w (Val w (.bool (decide (a=b)))):=by
 obtain⟨k,rfl,e⟩:=AS g;have l:=rM e;obtain⟨m,rfl,f⟩:=AS h;have n:=rM f;refine enter 17 Tryz.func38 Y Y Y<|Sr (bX Y λp=>?_);refine bX Y λo=>?_
 refine Pe Y<|Dh [bx o [.string b.p5,m],bx p [.string a.p5,k]] Y<|Sr<|fl 1 C5V BK Y<|fl 0 C5V BK Y<|q1 Y (DO Y Y Y)<|p1 Y<|EY 10 Y Y (λi=>?_) λi=>?_
 ·refine fl 1 C4Q VN Y<|fl 0 C4Q VN Y<|qv A7H Y (λw' j=>RI (rA j e)<|rA j f)<|PE 2 Y<|Ct<|Rb Y Y ?_;show((decide (a.a=b.a)):Bool)=_
  cases a;cases b;simp_all
 ·refine PE 7 Y<|Ct<|Rb Y Y ?_
  cases a;cases b;simp_all
theorem MQ{w:World}{c:List Value}{a:C1O}{d:List Value}{b:C1O}(g:Gd.rd w c a)(h:Gd.rd w d b):Cy 44 [(.agg c.toArray),(.agg d.toArray)] w (Val w (.bool (decide (a=b)))):=by
 obtain⟨k,rfl,e⟩:=BQ g;have l:=rM e;obtain⟨m,rfl,f⟩:=BQ h;have n:=rM f;refine enter 17 Tryz.func44 Y Y Y<|Sr (bX Y λp=>?_);refine bX Y λo=>?_
 refine Pe Y<|Dh [bx o [.string b.p7,m],bx p [.string a.p7,k]] Y<|Sr<|fl 1 C5u BK Y<|fl 0 C5u BK Y<|q1 Y (DO Y Y Y)<|p1 Y<|EY 10 Y Y (λi=>?_) λi=>?_
 ·refine fl 1 C5l C2J Y<|fl 0 C5l C2J Y<|qv A7K Y (λw' j=>IZ (rA j e)<|rA j f)<|PE 2 Y<|Ct<|Rb Y Y ?_;show((decide (a.q2=b.q2)):Bool)=_
  cases a;cases b;simp_all
 ·refine PE 7 Y<|Ct<|Rb Y Y ?_
  cases a;cases b;simp_all
theorem A9K{w:World}{c:List Value}{a:C1K}{d:List Value}{b:C1K}(e:Gd.rd w c a)(f:Gd.rd w d b):Cy 40 [(.agg c.toArray),(.agg d.toArray)] w (Val w (.bool (decide (a=b)))):=by
 obtain⟨o,rfl,i⟩:=D2 e;have t:=rM i;have k:=CC e;obtain⟨p,rfl,l⟩:=D2 f;have u:=rM l;have m:=CC f;refine enter 24 Tryz.func40 Y Y Y<|Sr (bX Y λv=>?_);refine bX Y λn=>?_
 refine Pe Y<|Dh [bx n [iv b.s,.string b.p7,.string b.j.p5,p],bx v [iv a.s,.string a.p7,.string a.j.p5,o]] Y<|Sr<|fl 1 C1y CJ Y<|fl 0 C1y CJ Y<|P2 Y Y<|oV 10 Y Y (λg=>?_) λg=>?_
 ·refine fl 1 C1W BK Y<|fl 0 C1W BK Y<|q1 Y (DO Y Y Y)<|P2 Y Y<|EY 17 Y Y (λh=>?_) λh=>?_
  ·refine q1 Y (Db C1S Y Y (q:=2) Y)<|q1 Y (H2 (es:=[.string a.j.p5,o]) 1 C4N Y Y Y Y)<|q1 Y (Db C1S Y Y (q:=2) Y)<|q1 Y (H2 (es:=[.string b.j.p5,p]) 0 C4N Y Y Y Y)<|qv A6z Y (λw' r=>cJ (rA r k)<|rA r m)<|PE 2 Y<|Ct<|Rb Y Y ?_;show((decide (a.j=b.j)):Bool)=_
   cases a;cases b;simp_all
  ·refine PE 7 Y<|Ct<|Rb Y Y ?_
   cases a;cases b;simp_all
 ·refine PE 14 Y<|Ct<|Rb Y Y ?_
  cases a;cases b;simp_all
theorem A8y{w:World}{r:Value}{a:(List C1K)}{s:Value}{b:(List C1K)}(d:Gd.rd w [r] a)(m:Gd.rd w [s] b):Cy 64 [r,s] w (Val w (.bool (decide (a=b)))):=by
 have a9:=rM d;have aa:=rM m;refine enter 55 Tryz.func64 Y Y Y<|Sr<|Pe Y<|Cq<|Sr<|p1 Y<|dl C4v Y (AE d)<|p1 Y<|dl C4v Y (AE m)<|Pe Y<|Cn Y (λa4=>?_) λa4=>?_
 ·refine Sr<|Pe Y<|Ct<|Xr<|Rb Y Y ?_;simp;intro e;subst e;simp_all
 ·refine Sk<|Cq<|Sr<|p1 Y<|dl C4v Y (AE d)<|Pe Y<|Cb<|Cl (λm_ ac w'=>∃(k:Nat),(k<=a.length)/\(∀i,i<k->a[i]?=b[i]?)/\m_=a.length-k/\Fits ac 55 [(0,r),(1,s),(12,nv a.length),(13,nv k)]/\St w ([]) w') ?_ ?_
  ·refine λac w' u c=>⟨_,0,?_,?_,Y,u.wk Y,c⟩
   ·first|assumption|omega|simp
   ·intro i hi;omega
  ·rintro m_ ac w' ⟨k,hk,hi,rfl,u,c⟩;refine D.use ?_ u c;clear u c ac w';refine Sr<|Pe Y<|Cq<|Cd Y (λa5=>?_) λa5=>?_
   ·refine Sk<|Cq<|Cb<|Sr<|PE 2 Y<|Cq<|A0 mixed [35,36,37] (by kernel_rfl)<|tK 36 [0,1] Y ?_;obtain⟨x5,p⟩:=sI a k;obtain⟨ab,t,v⟩:=AC (n:=4) rfl d p;obtain⟨ae,rfl,x⟩:=D2 v;have a6:=rM x;have y:=CC v;refine Tk 2 Y Y (AJ (l:=a) (j:=k) C4v Y Y Y (λw' c=>rA c d) Y<|lS p)<|Tk 3 Y Y (B2 C1y Y Y)<|Tk 4 Y Y (lr CJ Y Y t Y)<|tK 31 [5,6] Y ?_;obtain⟨af,g⟩:=sI b k;obtain⟨a7,o,q⟩:=AC (n:=4) rfl m g;obtain⟨ag,rfl,z⟩:=D2 q;have a8:=rM z;have a0:=CC q;refine Tk 7 Y Y (AJ (l:=b) (j:=k) C4v Y Y Y (λw' c=>rA c m) Y<|lS g)<|Tk 8 Y Y (B2 C1y Y Y)<|Tk 9 Y Y (lr CJ Y Y o Y)<|tK 26 [10,11] Y<|gxn 27 Y Y (λa1=>?_) λa1=>?_
    ·refine tK 2 [12,13,14,15,16,17,18,19,20,21,22,23,24,25,26,27,28,29,30,31,32,33,34,35] Y ?_;refine tN 36 Y Y<|tW 37 Y Y Y<|tE<|Xt<|AH [0,1,12,13,53] Y<|GF Y<|Sr<|Pe Y<|Ct<|Xq<|Xr<|Xr<|Xq<|Xr<|Rb Y Y ?_;simp;intro e;subst e;simp_all
    ·refine tK 24 [12,13] Y<|Tk 14 Y Y (AJ (l:=a) (j:=k) C4v Y Y Y (λw' c=>rA c d) Y<|lS p)<|Tk 15 Y Y (B2 C1W Y Y)<|Tk 16 Y Y (lr BK Y Y t Y)<|tK 19 [17,18] Y<|Tk 19 Y Y (AJ (l:=b) (j:=k) C4v Y Y Y (λw' c=>rA c m) Y<|lS g)<|Tk 20 Y Y (B2 C1W Y Y)<|Tk 21 Y Y (lr BK Y Y o Y)<|Tk 22 Y Y (E5 Y Y Y)<|tK 13 [23,24] Y<|A3C 40 Y Y (λa2=>?_) λa2=>?_
     ·refine tK 1 [25,26,27,28,29,30,31,32,33,34,35,36] Y<|tW 37 Y Y Y<|tE<|Xt<|AH [0,1,12,13,53] Y<|GF Y<|Sr<|Pe Y<|Ct<|Xq ?_;refine Xr<|Xr<|Xq<|Xr<|Rb Y Y ?_;simp;intro e;subst e;simp_all
     ·refine tK 11 [25,26] Y<|Tk 27 Y Y (AJ (l:=a) (j:=k) C4v Y Y Y (λw' c=>rA c d) Y<|lS p)<|Tk 28 Y Y (B2 C1S Y Y)<|Tk 29 Y Y (EX C4N Y Y<|Q1 (f:=2) (n:=2) t Y)<|tK 6 [30,31] Y<|Tk 32 Y Y (AJ (l:=b) (j:=k) C4v Y Y Y (λw' c=>rA c m) Y<|lS g)<|Tk 33 Y Y (B2 C1S Y Y)<|Tk 34 Y Y (EX C4N Y Y<|Q1 (f:=2) (n:=2) o Y)<|ty 35 Y Y<|cv B1y Y Y Y Y (λw' c=>OU (rA c y)<|rA c a0) ?_;refine tZ Y<|tW 36 Y Y Y<|tW 37 Y Y Y<|tE<|Xt<|AH [0,1,12,13,53] Y<|CN Y (λa3=>?_) λa3=>?_
      ·refine Sr<|Pe Y<|Ct<|Xq<|Xr<|Xr<|Xq<|Xr<|Rb Y Y ?_;simp;intro e;subst e;simp_all
      ·refine Ck<|Xb<|Xt<|Cr<|ad (k+1) Y<|Pe Y λac w' u c=>⟨_,?_,k+1,?_,?_,Y,u.wk Y,c⟩
       ·omega
       ·first|assumption|omega|simp
       ·refine DF hi ‹_› ‹_› ?_;first|(simp_all;done)|(apply C1K.mk_eq<;>simp_all)
   ·refine Cx<|Xx<|Xx<|Xe<|Xt<|Sr<|Pe Y<|Ct<|Rb Y Y ?_;simp;exact C7 (by omega) (λi h=>hi i (by omega))
end Go.Sy.Ev3
end
/-
  Contracts of functions of the program, walked (printed by a program of ours).
  Conditions: those that each theorem states.
-/
section
set_option linter.unusedVariables false
set_option maxRecDepth 20000
namespace Go.Sy.Pdqs
open Go Go.RowKit Go.Proofs Go.Sy
theorem gR(w:World)(x:Int)(h0:0<=x/\x<=18446744073709551615):Cy 233 [Value.int .u64 x] w (Val w (nv (Lib.bitLen x.toNat))):=
 (Tryz.bits_Len x w h0.1 h0.2).mono λe w' ⟨he,hw⟩=>⟨he,hw▸Ex.refl w⟩
theorem PP{α:Type} [Inhabited α]{C:List α->Chunk}{lt:α->α->Bool}{n:List α}{q:Value}{w0:World}(S:Srx Tryz.prog C lt n q w0)(x:Ordr lt)(z:n.length<=12)(k:List Chunk)(w:World)(d:List α)(hp:List.Perm d n)(a:Nat)(b:Nat)(a0:a<=b)(hb:b<=n.length)(t:St w0 (C d::k) w):Cy 273 [q,(nv a),(nv b)] w (λe_ w'=>∃(s:Unit) (e:List α),(Chg d e a b/\FI lt e a b)/\e_= .returned (.tuple #[])/\St w0 (C e::k) w'):=by
 have a2:d.length=n.length:=hp.length_eq;refine CX 33 Tryz.func273 Y Y Y t<|Sr<|p1 Y<|ad (a+1) Y<|Pe Y<|Dh (C d::k) Y<|Cb<|Cl (λp h w'=>∃(i:Nat),∃(e:List α),(a+1<=i)/\(i<=b\/i=a+1)/\(Chg d e a b)/\(FI lt e a i)/\p=b-i/\Fits h 33 [(0,q),(1,nv a),(2,nv b),(6,nv i)]/\St w0 (C e::k) w') ?_ ?_
 ·refine λh w' g c=>⟨_,a+1,d,?_,?_,?_,?_,Y,g.wk Y,c⟩
  ·first|assumption|omega|simp
  ·first|assumption|omega|simp
  ·exact Chg.refl _ _ _
  ·exact kE _ _
 ·rintro p h w' ⟨i,e,a1,a3,y,o,rfl,g,c⟩;refine D.use ?_ g c;clear g c h w';refine Cq<|Sr<|PE 3 Y<|Dh (_::k) Y<|Cd Y (λu=>?_) λu=>?_
  ·refine Sk<|Cq<|Cb<|Sr<|PE 2 Y<|Cb<|Cl (λp h w'=>∃(j:Nat),∃(l:List α),(a<=j)/\(j<=i)/\(Chg d l a b)/\(gN lt l a i j)/\p=j+1/\Fits h 33 [(0,q),(1,nv a),(2,nv b),(6,nv i),(7,nv j)]/\St w0 (C l::k) w') ?_ ?_
   ·refine λh w' g c=>⟨_,i,e,?_,?_,?_,?_,Y,g.wk Y,c⟩
    ·first|assumption|omega|simp
    ·first|assumption|omega|simp
    ·exact y
    ·exact XP o
   ·rintro p h w' ⟨j,l,a4,a5,f,m,rfl,g,c⟩;refine D.use ?_ g c;clear g c h w';refine Cq<|Sr<|P3 Y Y Y<|p1 Y<|EY 19 Y Y (λv=>?_) λv=>?_
    ·refine P3 Y Y Y<|q1 Y (B3 Y Y Y (r:=((j-1:Nat):Int)) (by omega) (by omega))<|li Y<|A5l S (f.perm.trans hp) (i:=j) (j:=j-1) Y Y Y Y Y (by omega) (by omega) ?_;refine Pe Y<|Dh (_::k) Y<|Ci _ Y (λh3=>?_) λh3=>?_
     ·refine Sk<|Cq<|Cb<|Cr<|P3 Y Y Y<|q1 Y (B3 Y Y Y (r:=((j-1:Nat):Int)) (by omega) (by omega))<|li Y<|A5m S (f.perm.trans hp) (i:=j) (j:=j-1) Y Y Y Y Y (by omega) (by omega) ?_;refine De<|Xb<|Xt<|AH [0,1,2,6,7] Y<|Dh (C (swp l j (j-1))::k) Y<|Cr<|p1 Y<|q1 Y (B3 Y Y Y (r:=((j-1:Nat):Int)) (by omega) (by omega))<|Pe Y λh w' g c=>⟨_,?_,j-1,swp l j (j-1),?_,?_,?_,?_,Y,g.wk Y,c⟩
      ·omega
      ·first|assumption|omega|simp
      ·first|assumption|omega|simp
      ·exact f.trans (Chg.swp (by omega) (by omega) (by have:=f.len;omega))
      ·exact dD x m (by omega) (by omega) (by have:=f.len;omega) ‹_›
     ·refine Cx<|Xx<|Xx<|Xe<|Xb<|Xt<|Cr<|p1 Y<|ad (i+1) Y<|Pe Y λh w' g c=>⟨_,?_,i+1,l,?_,?_,?_,?_,Y,g.wk Y,c⟩
      ·omega
      ·first|assumption|omega|simp
      ·first|assumption|omega|simp
      ·exact f
      ·exact dF x m (by omega) (by omega) ‹_›
    ·refine PE 6 Y<|Dh (_::k) Y<|G7 Y<|Cx<|Xx<|Xx<|Xe<|Xb<|Xt<|Cr<|p1 Y<|ad (i+1) Y<|Pe Y λh w' g c=>⟨_,?_,i+1,l,?_,?_,?_,?_,Y,g.wk Y,c⟩
     ·omega
     ·first|assumption|omega|simp
     ·first|assumption|omega|simp
     ·exact f
     ·exact dE m (by omega)
  ·refine Cx<|Xx<|Xx<|Xe (CY Y λw' c=>⟨(),e,?_,Y,c⟩);exact⟨y,I3 o (Nat.le_refl _) (by omega)⟩
theorem Z0{α:Type} [Inhabited α]{C:List α->Chunk}{lt:α->α->Bool}{i:List α}{o:Value}{w0:World}(S:Srx Tryz.prog C lt i o w0)(ho:Ordr lt)(p:i.length<=12)(j:List Chunk)(w:World)(d:List α)(hp:List.Perm d i)(a:Nat)(b:Nat)(c:Nat)(a0:a<=b)(hb:b<=i.length)(q:St w0 (C d::j) w):Cy 238 [o,(nv a),(nv b),(nv c)] w (λe_ w'=>∃(s:Unit) (e:List α),(Chg d e a b/\FI lt e a b)/\e_= .returned (.tuple #[])/\St w0 (C e::j) w'):=by
 have a2:d.length=i.length:=hp.length_eq;refine CX 129 Tryz.func238 Y Y Y q<|Sr<|Pe Y<|Dh (C d::j) Y<|Sr<|Pe Y<|Cb<|Cl (λy m w'=>∃(g:Nat),∃(h:Nat),∃(x:Nat),∃(wb:Bool),∃(z:Bool),∃(e:List α),(g=a)/\(h=b)/\(e=d)/\y=h-g/\Fits m 129 [(0,o),(1,nv g),(2,nv h),(3,nv x),(8,.bool wb),(9,.bool z)]/\St w0 (C e::j) w') ?_ ?_
 ·refine λm w' n f=>⟨_,a,b,c,true,true,d,?_,?_,?_,Y,n.wk Y,f⟩
  ·rfl
  ·rfl
  ·rfl
 ·rintro y m w' ⟨g,h,x,wb,z,e,t,u,l,rfl,n,f⟩;refine D.use ?_ n f;clear n f m w';refine Cb<|Sr<|P2 Y Y<|q1 Y (B3 Y Y Y (r:=((h-g:Nat):Int)) (by omega) (by omega))<|Pe Y<|Dh (_::j) Y<|Cq<|Sr<|PE 2 Y<|Cd Y (λv=>?_) λv=>?_
  ·refine Sr<|P3 Y Y Y<|li Y<|cix A4Y Y Y Y Y (λw' f=>PP S ho p _ w' e (l▸hp) g h (by first|assumption|omega) (by first|assumption|omega) f) ?_;rintro⟨⟩ e2 k
   try dsimp only at k
   refine Dx<|Ct<|Xr<|Xq<|Xr<|Xq (R_0 Y λw' f=>⟨(),e2,?_,Y,f⟩);subst t u l;exact k
  ·refine Sk<|Cq<|Cq ?_;exfalso;omega
theorem mZ{α:Type} [Inhabited α]{C:List α->Chunk}{lt:α->α->Bool}{a:List α}{j:Value}{w0:World}(S:Srx Tryz.prog C lt a j w0)(k:Ordr lt)(f:a.length<=12)(g:List Chunk)(w:World)(d:List α)(hp:List.Perm d a)(h:St w0 (C d::g) w):Cy 209 [j] w (λm w'=>∃(s:Unit) (e:List α),(Chg d e 0 a.length/\FI lt e 0 a.length)/\m= .returned (.tuple #[])/\St w0 (C e::g) w'):=by
 have o:d.length=a.length:=hp.length_eq;refine CX 15 Tryz.func209 Y Y Y h<|Sr<|p1 Y<|li Y<|A7f S hp Y Y Y Y ?_;refine Pe Y<|Dh (C d::g) Y<|Cq<|Sr<|PE 2 Y<|Cd Y (λi=>?_) λi=>?_
 ·refine Ct<|Xr (R_0 Y λw' b=>⟨(),d,?_,Y,b⟩);exact⟨Chg.refl _ _ _,XY (by omega)⟩
 ·refine Sk<|Sr<|p1 Y<|q1 Y (XX (n:=a.length) C5v ⟨_,LO⟩ Y Y (by omega))<|qv A0a Y (λw' b=>gR w' ((a.length:Nat):Int) (by first|assumption|omega|(unfold ED at*;split at* <;>omega)))<|Pe Y<|Cr<|P3 Y Y Y ?_;have p:=Lib.bitLen_le ((a.length:Nat):Int).toNat 62 (by omega) (by omega);refine li Y<|cix zS Y Y Y Y (λw' b=>Z0 S k f _ w' d hp 0 a.length (Lib.bitLen (((a.length:Nat):Int)).toNat) (by first|assumption|omega) (by first|assumption|omega) b) ?_;rintro⟨⟩ l c
  try dsimp only at c
  refine De (CY Y λw' b=>⟨(),l,?_,Y,b⟩)
  first|exact⟨Chg.refl _ _ _,XY (by omega)⟩|exact c
end Go.Sy.Pdqs
end
