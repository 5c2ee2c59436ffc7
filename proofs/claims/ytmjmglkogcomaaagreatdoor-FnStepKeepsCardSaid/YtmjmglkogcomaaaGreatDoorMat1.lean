/-
  Contracts of functions of the program, walked (printed by a program of ours).
  Conditions: those that each theorem states.
-/
import Derived.Test.YtmjmglkogcomaaaGreatDoorFct
import Derived.Test.YtmjmglkogcomaaaGreatDoorCho2
import Derived.Test.YtmjmglkogcomaaaGreatDoorMat
set_option linter.unusedVariables false
set_option maxRecDepth 20000
namespace Go.Sy.Mat1
open Go Go.RowKit Go.Proofs Go.Sy
open Go.Sy.Bel1 Go.Sy.Ev1 Go.Sy.Ev3 Go.Sy.Fmt1 Go.Sy.Eng1 Go.Sy.Eng2 Go.Sy.Eng3 Go.Sy.Eng4 Go.Sy.Num1 Go.Sy.Num2 Go.Sy.Fal2 Go.Sy.Cho2
theorem IC{w:World}{e:Value}{b:(List C1J)}(a:Gd.rd w [e] b):Cy 93 [e] w (Val w (.bool (D7 b))):=by
 have a3:=rM a;refine enter 41 Tryz.func93 Y Y Y<|Sr<|Pe Y<|Cq<|Sr<|p1 Y<|dl C5A Y (AE a)<|Pe Y<|Cd Y (λx=>?_) λx=>?_
 ·refine Sr<|Pe Y<|Ct<|Xr<|Rb Y Y ?_;exact A2b (by omega)
 ·refine Sk<|Cq<|Sr<|p1 Y<|dl C5A Y (AE a)<|Pe Y<|Cb<|Cl (λm_ o w'=>∃(k:Nat),(k<=b.length)/\(∀i,i<k->GB b i=true)/\m_=b.length-k/\Fits o 41 [(0,e),(8,e),(9,nv b.length),(10,nv k)]/\St w ([]) w') ?_ ?_
  ·refine λo w' g d=>⟨_,0,?_,?_,Y,g.wk Y,d⟩
   ·omega
   ·intro i v;omega
  ·rintro m_ o w' ⟨k,hk,v,rfl,g,d⟩;refine D.use ?_ g d;clear g d o w';refine Sr<|Pe Y<|Cq<|Cd Y (λy=>?_) λy=>?_
   ·refine Sk<|Cq<|Cb<|Sr<|p1 Y ?_;obtain⟨m,c⟩:=sI b k;obtain⟨a4,at5,z⟩:=AC (n:=2) rfl a c;obtain⟨rfl⟩:=D1 z;refine q1 Y (AJ (l:=b) (j:=k) C5A Y Y Y (λw' d=>rA d a) Y<|lS c)<|q1 Y (EX C6P Y Y at5) (aL C5b Y λg7=>?_);refine p1 Y<|li Y<|AZ (vs:=[.string m.q4,.string m.q3]) (cs':=[.string m.q4,.string m.q3]) 0 C7g Y Y Y Y Y Y (AB Y<|AB Y BR) (by simp) Y ?_;refine Dx<|Dh [bx g7 [.string m.q4,.string m.q3]] Y<|Cq<|A0 mixed [2,3,4,5,6,7,8,9,10,11,12,13,22,23,24] (by kernel_rfl)<|Tk 0 Y Y (Db C5o Y Y (q:=0) Y)<|Tk 1 Y Y (lb 0 BK Y Y Y Y)<|ty 2 Y Y<|cv A3Q Y Y Y Y (λw' d=>J9) ?_;refine tZ Y<|tW 3 Y Y Y<|tW 4 Y Y Y<|JQ 19 Y Y (λa0=>?_) λa0=>?_
    ·refine tK 16 [5,6,7,8] Y<|tW 9 Y Y Y<|tW 10 Y Y Y<|tK 1 [11,12,13,14,15,16,17,18,19,20,21,22,23] Y<|tW 24 Y Y Y<|tE<|Xt<|AH [0,8,9,10,39] Y<|AG [] Y ?_;refine GF Y<|Sr<|Pe Y<|Ct<|Xq<|Xr<|Xr<|Xq<|Xr<|Rb Y Y ?_;exact RU (k:=k) (by omega) (X2 c ‹_›)
    ·refine ty 5 Y Y<|sv Y Y (Db C6e Y Y (q:=1) Y) ?_;refine tZ Y<|ty 6 Y Y<|sv Y Y (lb 0 BK Y Y Y Y) ?_;refine tZ Y<|ty 7 Y Y<|cv pZ Y Y Y Y (λw' d=>FC) ?_;refine tZ Y<|tW 8 Y Y Y<|tW 9 Y Y Y<|tW 10 Y Y Y<|JQ 25 Y Y (λa1=>?_) λa1=>?_
     ·refine tK 1 [11,12,13,14,15,16,17,18,19,20,21,22,23] Y<|tW 24 Y Y Y<|tE<|Xt<|AH [0,8,9,10,39] Y<|AG [] Y<|GF Y<|Sr<|Pe Y ?_;refine Ct<|Xq<|Xr<|Xr<|Xq<|Xr<|Rb Y Y ?_;exact RU (k:=k) (by omega) (X3 c ‹_›)
     ·refine tW 11 Y Y Y<|tW 12 Y Y Y<|tW 13 Y Y Y<|EY 28 Y Y (λp=>?_) λp=>?_
      ·refine tK 9 [14,15] Y<|Tk 16 Y Y (B3 Y Y Y (r:=((k-1:Nat):Int)) (by omega) (by omega)) ?_;obtain⟨p0,f⟩:=sI b (k-1);obtain⟨a2,s,t⟩:=AC (n:=2) rfl a f;obtain⟨rfl⟩:=D1 t;refine Tk 17 Y Y (AJ (l:=b) (j:=(k-1)) C5A Y Y Y (λw' d=>rA d a) Y<|lS f)<|Tk 18 Y Y (B2 C5o Y Y)<|Tk 19 Y Y (lr BK Y Y s Y)<|Tk 20 Y Y (Db C5o Y Y (q:=0) Y)<|Tk 21 Y Y (lb 0 BK Y Y Y Y)<|ty 22 Y Y<|sv Y Y (oP Y Y Y) ?_;refine tZ Y<|tW 23 Y Y Y<|tW 24 Y Y Y<|tE<|Xt<|AH [0,8,9,10,39] Y<|AG [] Y<|CN Y (λu=>?_) λu=>?_
       ·refine Sr<|Pe Y<|Ct<|Xq<|Xr<|Xr<|Xq<|Xr<|Rb Y Y ?_;exact RU (k:=k) (by omega) (X4 c f (by omega) ‹_›)
       ·refine Ck<|Xb<|Xt<|Cr<|ad (k+1) Y<|Pe Y λo w' g d=>⟨_,?_,k+1,?_,?_,Y,g.wk Y,d⟩
        ·omega
        ·omega
        ·refine AF v ?_;exact dX c f (by omega) ‹_› ‹_› ‹_›
      ·refine tK 2 [14,15,16,17,18,19,20,21,22] Y<|tW 23 Y Y Y<|tW 24 Y Y Y<|tE<|Xt<|AH [0,8,9,10,39] Y<|AG [] Y<|G7 Y<|Ck<|Xb<|Xt<|Cr<|ad (k+1) Y<|Pe Y ?_;refine λo w' g d=>⟨_,?_,k+1,?_,?_,Y,g.wk Y,d⟩
       ·omega
       ·omega
       ·refine AF v ?_;exact dW c ‹_› ‹_› (by omega)
   ·refine Cx<|Xx<|Xx<|Xe<|Xt<|Sr<|Pe Y<|Ct<|Rb Y Y ?_;exact A5r (by omega) (λi h=>v i (by omega))
theorem ID{w:World}{g:Value}{b:(List C1J)}(c:Gd.rd w [g] b)(ho:LR KF b):Cy 173 [g] w (Val w (.bool (D7 b))):=by
 have a3:=rM c;refine enter 47 Tryz.func173 Y Y Y<|Sr<|Pe Y<|Cq<|Sr<|Pe Y<|Cb<|Cl (λm_ o w'=>∃(k:Nat),(k<=b.length)/\(∀i,i<k->GB b i=true)/\m_=b.length-k/\Fits o 47 [(0,g),(3,nv k)]/\St w ([]) w') ?_ ?_
 ·refine λo w' f d=>⟨_,0,?_,?_,Y,f.wk Y,d⟩
  ·omega
  ·intro i u;omega
 ·rintro m_ o w' ⟨k,hk,u,rfl,f,d⟩;refine D.use ?_ f d;clear f d o w';refine Cq<|Sr<|P2 Y Y<|dl C5A Y (AE c)<|Pe Y<|Cd Y (λv=>?_) λv=>?_
  ·refine Sk<|Cq<|Cb<|Cq<|A0 mixed [5,6,7,10,11,12,13,14,15,16,17,18,19,31,32,33] (by kernel_rfl)<|tK 32 [0,1] Y ?_;obtain⟨x0,a⟩:=sI b k;have t:=ho _ (List.mem_of_getElem? a);have a1:x0.q4.size<=9223372036854775807:=t.1;have a2:x0.q3.size<=9223372036854775807:=t.2;obtain⟨a4,m,x⟩:=AC (n:=2) rfl c a;obtain⟨rfl⟩:=D1 x;refine Tk 2 Y Y (AJ (l:=b) (j:=k) C5A Y Y Y (λw' d=>rA d c) Y<|lS a)<|Tk 3 Y Y (B2 C5o Y Y)<|Tk 4 Y Y (lr BK Y Y m Y)<|ty 5 Y Y<|cv pP Y Y Y Y (λw' d=>GQ ‹_›) ?_;refine tZ Y<|tW 6 Y Y Y<|tW 7 Y Y Y<|JQ 17 Y Y (λy=>?_) λy=>?_
   ·refine tK 19 [8,9,10,11,12,13,14] Y<|tW 15 Y Y Y<|tW 16 Y Y Y<|tK 2 [17,18,19,20,21,22,23,24,25,26,27,28,29,30,31] Y ?_;refine tN 32 Y Y<|tW 33 Y Y Y<|tE<|Xt<|AH [0,3,43] Y<|GF Y<|Sr<|Pe Y<|Ct<|Xq<|Xr<|Xr<|Xq<|Xr<|Rb Y Y ?_;exact RU (k:=k) (by omega) (X2 a ‹_›)
   ·refine tK 24 [8,9] Y<|ty 10 Y Y<|sv Y Y (AJ (l:=b) (j:=k) C5A Y Y Y (λw' d=>rA d c) Y<|lS a) ?_;refine tZ Y<|ty 11 Y Y<|sv Y Y (B2 C6e Y Y) ?_;refine tZ Y<|ty 12 Y Y<|sv Y Y (lr BK Y Y m Y) ?_;refine tZ Y<|ty 13 Y Y<|cv A6v Y Y Y Y (λw' d=>FD ‹_›) ?_;refine tZ Y<|tW 14 Y Y Y<|tW 15 Y Y Y<|tW 16 Y Y Y<|JQ 26 Y Y (λz=>?_) λz=>?_
    ·refine tK 1 [17,18,19,20,21,22,23,24,25,26,27,28,29,30,31,32] Y<|tW 33 Y Y Y<|tE<|Xt<|AH [0,3,43] Y<|GF Y<|Sr<|p1 Y ?_;refine Dx<|Ct<|Xq<|Xr<|Xr<|Xq<|Xr<|Rb Y Y ?_;exact RU (k:=k) (by omega) (X3 a ‹_›)
    ·refine tW 17 Y Y Y<|tW 18 Y Y Y<|tW 19 Y Y Y<|EY 29 Y Y (λa0=>?_) λa0=>?_
     ·refine tK 12 [20,21] Y<|Tk 22 Y Y (B3 Y Y Y (r:=((k-1:Nat):Int)) (by omega) (by omega)) ?_;obtain⟨p0,e⟩:=sI b (k-1);obtain⟨a5,p,q⟩:=AC (n:=2) rfl c e;obtain⟨rfl⟩:=D1 q;refine Tk 23 Y Y (AJ (l:=b) (j:=(k-1)) C5A Y Y Y (λw' d=>rA d c) Y<|lS e)<|Tk 24 Y Y (B2 C5o Y Y)<|Tk 25 Y Y (lr BK Y Y p Y)<|tK 6 [26,27] Y<|Tk 28 Y Y (AJ (l:=b) (j:=k) C5A Y Y Y (λw' d=>rA d c) Y<|lS a)<|Tk 29 Y Y (B2 C5o Y Y)<|Tk 30 Y Y (lr BK Y Y m Y)<|ty 31 Y Y<|sv Y Y (oP Y Y Y) ?_;refine tZ Y<|tW 32 Y Y Y<|tW 33 Y Y Y<|tE<|Xt<|AH [0,3,43] Y<|CN Y (λs=>?_) λs=>?_
      ·refine Sr<|Pe Y<|Ct<|Xq<|Xr<|Xr<|Xq<|Xr<|Rb Y Y ?_;exact RU (k:=k) (by omega) (X4 a e (by omega) ‹_›)
      ·refine Ck<|Xb<|Xt<|Cr<|p1 Y<|ad (k+1) Y<|Pe Y λo w' f d=>⟨_,?_,k+1,?_,?_,Y,f.wk Y,d⟩
       ·omega
       ·omega
       ·refine AF u ?_;exact dX a e (by omega) ‹_› ‹_› ‹_›
     ·refine tK 2 [20,21,22,23,24,25,26,27,28,29,30,31] Y<|tW 32 Y Y Y<|tW 33 Y Y Y<|tE<|Xt<|AH [0,3,43] Y<|G7 Y<|Ck<|Xb<|Xt<|Cr<|p1 Y<|ad (k+1) Y ?_;refine Pe Y λo w' f d=>⟨_,?_,k+1,?_,?_,Y,f.wk Y,d⟩
      ·omega
      ·omega
      ·refine AF u ?_;exact dW a ‹_› ‹_› (by omega)
  ·refine Cx<|Xx<|Xx<|Xe<|Xt<|Sr<|p1 Y<|dl C5A Y (AE c)<|PE 2 Y<|Ct<|Rb Y Y ?_;show((decide ((((b.length:Nat):Int):Int)<=6)):Bool)=_;exact A5s (λi h=>u i (by omega))
theorem MJ{w:World}{f:Value}{b:(List C1J)}{t:ByteArray}(e:Gd.rd w [f] b):Cy 94 [f,(.string t)] w (O8 w (EJ b t:ByteArray) (HU b t:Bool)):=by
 have x:=rM e;refine enter 27 Tryz.func94 Y Y Y<|Sr<|PE 2 Y<|Cq<|Sr<|p1 Y<|qv pZ Y (λw' a=>FC)<|Dx<|Ci _ Y (λz=>?_) λz=>?_
 ·refine Sr<|PE 3 Y<|Ct<|Xr<|OI t<|AX true<|AG [1,0] Y (DL Y (D8 Y) (D8 Y) λw' a=>AY (c1:=[.string t]) (c2:=[.bool true]) a ?_ ?_)
  ·show(t:ByteArray)=EJ b t;exact(kR ‹_›).1
  ·show(true:Bool)=HU b t;exact(kR ‹_›).2
 ·refine Sk<|Cq<|Sr<|p1 Y<|qv A3Q Y (λw' a=>J9)<|Pe Y<|CN Y (λp=>?_) λp=>?_
  ·refine Sr<|PE 2 Y<|Ct<|Xr<|OI ⟨#[]⟩<|AX false<|AG [1,0] Y (DL Y (D8 Y) (D8 Y) λw' a=>AY (c1:=[eS]) (c2:=[.bool false]) a ?_ ?_)
   ·show(⟨#[]⟩:ByteArray)=EJ b t;exact(X5 ‹_› (.inl ‹_›)).1
   ·show(false:Bool)=HU b t;exact(X5 ‹_› (.inl ‹_›)).2
  ·refine Sk<|Cq<|Sr<|p1 Y<|dl C5A Y (AE e)<|Pe Y<|Cb<|Cl (λv o w'=>∃(k:Nat),(k<=b.length)/\(∀i,i<k->∀y,b[i]?=some y->¬(y.q4=t/\BM t=true))/\v=b.length-k/\Fits o 27 [(1,.string t),(14,f),(15,nv b.length),(16,nv k)]/\St w ([]) w') ?_ ?_
   ·refine λo w' g a=>⟨_,0,?_,?_,Y,g.wk Y,a⟩
    ·omega
    ·intro i m;omega
   ·rintro v o w' ⟨k,hk,m,rfl,g,a⟩;refine D.use ?_ g a;clear g a o w';refine Sr<|Pe Y<|Cq<|Cd Y (λq=>?_) λq=>?_
    ·refine Sk<|Cq<|Cb<|Sr ?_;obtain⟨d,c⟩:=sI b k;obtain⟨a0,r,s⟩:=AC (n:=2) rfl e c;obtain⟨rfl⟩:=D1 s;refine q1 Y (AJ (l:=b) (j:=k) C5A Y Y Y (λw' a=>rA a e) Y<|lS c)<|q1 Y (EX C6P Y Y r) (aL C5b Y λg8=>?_);refine li Y<|AZ (vs:=[.string d.q4,.string d.q3]) (cs':=[.string d.q4,.string d.q3]) 0 C7g Y Y Y Y Y Y (AB Y<|AB Y BR) (by simp) Y ?_;refine Dx<|Dh [bx g8 [.string d.q4,.string d.q3]] Y<|Sr<|fl 0 C5o BK Y<|p1 Y<|q1 Y (DO Y Y Y)<|Dx<|Cd Y (λu=>?_) λu=>?_
     ·refine Sr<|fl 0 C6e BK Y<|PE 2 Y<|Ct<|Xq<|Xr<|Xr<|Xq<|Xr<|OI d.q3<|AX true<|AG [1,0,2] Y (DL Y (D8 Y) (D8 Y) λw' a=>AY (c1:=[.string d.q3]) (c2:=[.bool true]) a ?_ ?_)
      ·show(d.q3:ByteArray)=EJ b t;exact(kS ‹_› ‹_› c ‹_› m).1
      ·show(true:Bool)=HU b t;exact(kS ‹_› ‹_› c ‹_› m).2
     ·refine Ck<|Xb<|Xt<|Cr<|ad (k+1) Y<|Pe Y λo w' g a=>⟨_,?_,k+1,?_,?_,Y,g.wk Y,a.pk [] Y Y⟩
      ·omega
      ·omega
      ·refine AF m ?_;intro y hy;obtain rfl:y=d:=Option.some.inj (hy.symm.trans c);simp_all
    ·refine Cx<|Xx<|Xx<|Xe<|Xt<|Sr<|PE 2 Y<|Ct<|OI ⟨#[]⟩<|AX false<|AG [1,0] Y (DL Y (D8 Y) (D8 Y) λw' a=>AY (c1:=[eS]) (c2:=[.bool false]) a ?_ ?_)
     ·show(⟨#[]⟩:ByteArray)=EJ b t;exact(X5 ‹_› (.inr (λi h=>m i (by omega)))).1
     ·show(false:Bool)=HU b t;exact(X5 ‹_› (.inr (λi h=>m i (by omega)))).2
theorem MK{w:World}{f:Value}{b:(List C1J)}{t:ByteArray}(d:Gd.rd w [f] b)(p:VP t):Cy 174 [f,(.string t)] w (O8 w (EJ b t:ByteArray) (HU b t:Bool)):=by
 have v:=rM d;unfold VP at p;refine enter 32 Tryz.func174 Y Y Y<|Sr<|PE 2 Y<|Cq<|Sr<|p1 Y<|qv A6v Y (λw' a=>FD ‹_›)<|Dx<|Ci _ Y (λx=>?_) λx=>?_
 ·refine Sr<|PE 3 Y<|Ct<|Xr<|OI t<|AX true<|AG [1,0] Y (DL Y (D8 Y) (D8 Y) λw' a=>AY (c1:=[.string t]) (c2:=[.bool true]) a ?_ ?_)
  ·show(t:ByteArray)=EJ b t;exact(kR ‹_›).1
  ·show(true:Bool)=HU b t;exact(kR ‹_›).2
 ·refine Sk<|Cq<|Sr<|Pe Y<|Cb<|Cl (λu m w'=>∃(k:Nat),(k<=b.length)/\(∀i,i<k->∀y,b[i]?=some y->¬(y.q4=t/\BM t=true))/\u=b.length-k/\Fits m 32 [(0,f),(1,.string t),(6,nv k)]/\St w ([]) w') ?_ ?_
  ·refine λm w' e a=>⟨_,0,?_,?_,Y,e.wk Y,a⟩
   ·omega
   ·intro i g;omega
  ·rintro u m w' ⟨k,hk,g,rfl,e,a⟩;refine D.use ?_ e a;clear e a m w';refine Cq<|Sr<|P2 Y Y<|dl C5A Y (AE d)<|Pe Y<|Cd Y (λq=>?_) λq=>?_
   ·refine Sk<|Cq<|Cb<|Sr<|P2 Y Y ?_;obtain⟨o,c⟩:=sI b k;obtain⟨z,at5,r⟩:=AC (n:=2) rfl d c;obtain⟨rfl⟩:=D1 r;refine q1 Y (AJ (l:=b) (j:=k) C5A Y Y Y (λw' a=>rA a d) Y<|lS c)<|q1 Y (B2 C5o Y Y)<|q1 Y (lr BK Y Y at5 Y)<|p1 Y<|q1 Y (DO Y Y Y)<|p1 Y<|EY 23 Y Y (λs=>?_) λs=>?_
    ·refine p1 Y<|qv pP Y (λw' a=>GQ ‹_›)<|Pe Y<|Ci _ Y (λh8=>?_) λh8=>?_
     ·refine Sr<|P2 Y Y<|q1 Y (AJ (l:=b) (j:=k) C5A Y Y Y (λw' a=>rA a d) Y<|lS c)<|q1 Y (B2 C6e Y Y)<|q1 Y (lr BK Y Y at5 Y)<|PE 2 Y<|Ct<|Xq<|Xr<|Xr<|Xq<|Xr<|OI o.q3<|AX true<|AG [1,0] Y (DL Y (D8 Y) (D8 Y) λw' a=>AY (c1:=[.string o.q3]) (c2:=[.bool true]) a ?_ ?_)
      ·show(o.q3:ByteArray)=EJ b t;exact(kS ‹_› ‹_› c ‹_› g).1
      ·show(true:Bool)=HU b t;exact(kS ‹_› ‹_› c ‹_› g).2
     ·refine Ck<|Xb<|Xt<|AH [0,1,6] Y<|Cr<|p1 Y<|ad (k+1) Y<|Pe Y λm w' e a=>⟨_,?_,k+1,?_,?_,Y,e.wk Y,a⟩
      ·omega
      ·omega
      ·refine AF g ?_;intro y hy;obtain rfl:y=o:=Option.some.inj (hy.symm.trans c);simp_all
    ·refine PE 3 Y<|G7 Y<|Ck<|Xb<|Xt<|AH [0,1,6] Y<|Cr<|p1 Y<|ad (k+1) Y<|Pe Y λm w' e a=>⟨_,?_,k+1,?_,?_,Y,e.wk Y,a⟩
     ·omega
     ·omega
     ·refine AF g ?_;intro y hy;obtain rfl:y=o:=Option.some.inj (hy.symm.trans c);simp_all
   ·refine Cx<|Xx<|Xx<|Xe<|Xt<|Sr<|PE 2 Y<|Ct<|OI ⟨#[]⟩<|AX false<|AG [1,0] Y (DL Y (D8 Y) (D8 Y) λw' a=>AY (c1:=[eS]) (c2:=[.bool false]) a ?_ ?_)
    ·show(⟨#[]⟩:ByteArray)=EJ b t;exact(X5 ‹_› (.inr (λi h=>g i (by omega)))).1
    ·show(false:Bool)=HU b t;exact(X5 ‹_› (.inr (λi h=>g i (by omega)))).2
set_option maxHeartbeats 4000000 in
theorem eQ{w:World}{g:Value}{b:(List C1J)}{v:ByteArray}{x:ByteArray}(c:Gd.rd w [g] b)(a7:b.length<=1048576):Cy 236 [g,(.string v),(.string x)] w (O8 w (Fq b v x:List C1J) (GY b v x:Bool)):=by
 have a8:=rM c;refine enter 76 Tryz.func236 Y Y Y<|Sr<|PE 2 Y<|Cq<|Sr<|p1 Y<|qv A6y Y (λw' a=>IC<|rA a c)<|P2 Y Y<|JQ 17 Y Y (λa0=>?_) λa0=>?_
 ·refine PE 9 Y<|GF Y<|Sr<|PE 2 Y<|Ct<|Xr<|CG (α:=C1J)<|AX false<|AG [1,0] Y (DL Y (D8 Y) (D8 Y) λw' a=>AY (c1:=[nS]) (c2:=[.bool false]) a ?_ ?_)
  ·show([]:List C1J)=Fq b v x;exact(JN (.inl ‹_›)).1
  ·show(false:Bool)=GY b v x;exact(JN (.inl ‹_›)).2
 ·refine p1 Y<|qv A3Q Y (λw' a=>J9)<|P3 Y Y Y<|JQ 22 Y Y (λa1=>?_) λa1=>?_
  ·refine PE 4 Y<|GF Y<|Sr<|PE 2 Y<|Ct<|Xr<|CG (α:=C1J)<|AX false<|AG [1,0] Y (DL Y (D8 Y) (D8 Y) λw' a=>AY (c1:=[nS]) (c2:=[.bool false]) a ?_ ?_)
   ·show([]:List C1J)=Fq b v x;exact(JN (.inr (.inl ‹_›))).1
   ·show(false:Bool)=GY b v x;exact(JN (.inr (.inl ‹_›))).2
  ·refine p1 Y<|qv pZ Y (λw' a=>FC)<|PE 2 Y<|CN Y (λa2=>?_) λa2=>?_
   ·refine Sr<|PE 2 Y<|Ct<|Xr<|CG (α:=C1J)<|AX false<|AG [1,0] Y (DL Y (D8 Y) (D8 Y) λw' a=>AY (c1:=[nS]) (c2:=[.bool false]) a ?_ ?_)
    ·show([]:List C1J)=Fq b v x;exact(JN (.inr (.inr ‹_›))).1
    ·show(false:Bool)=GY b v x;exact(JN (.inr (.inr ‹_›))).2
   ·refine Sk<|AH [0,1,2] Y<|Cq<|Sr<|P2 Y Y<|lM B3w Y (λw' a=>MJ<|rA a c) (v:=(.tuple #[.string<|EJ b v,.bool<|HU b v])) Y<|PE 5 Y<|Sr<|Pe Y<|Ci _ Y (λh7=>?_) λh7=>?_
    ·refine Cq<|Sr<|P2 Y Y<|q1 Y (E5 Y Y Y)<|Dx<|R8 Y (λa3=>?_) λa3=>?_
     ·refine Sr<|PE 2 Y<|Ct<|Xr<|Xr<|CG (α:=C1J)<|AX false<|AG [1,0] Y (DL Y (D8 Y) (D8 Y) λw' a=>AY (c1:=[nS]) (c2:=[.bool false]) a ?_ ?_)
      ·show([]:List C1J)=Fq b v x;exact(kX ‹_› ‹_›).1
      ·show(false:Bool)=GY b v x;exact(kX ‹_› ‹_›).2
     ·refine Sk<|Sr<|p1 Y (ql A3k Y (λw' a=>KJ (rA a c) ‹_›) λv9=>?_);refine PE 2 Y<|Ct<|Xr<|AX true<|AG [1,0] Y (DL Y (D8 Y) (D8 Y) λw' a=>AY (c1:=[v9]) (c2:=[.bool true]) a ?_ ?_)
      ·show(b:List C1J)=Fq b v x;exact(kW ‹_› ‹_› ‹_› ‹_› ‹_›).1
      ·show(true:Bool)=GY b v x;exact(kW ‹_› ‹_› ‹_› ‹_› ‹_›).2
    ·refine Sk<|Cq<|Sr<|p1 Y<|dl C5A Y (AE c)<|Pe Y<|Cd Y (λm=>?_) λm=>?_
     ·refine Sr<|PE 2 Y<|Ct<|Xr<|CG (α:=C1J)<|AX false<|AG [1,0] Y (DL Y (D8 Y) (D8 Y) λw' a=>AY (c1:=[nS]) (c2:=[.bool false]) a ?_ ?_)
      ·show([]:List C1J)=Fq b v x;exact(kY ‹_› (by omega)).1
      ·show(false:Bool)=GY b v x;exact(kY ‹_› (by omega)).2
     ·refine Sk<|Sr<|Pe Y<|Sr<|Pe Y<|Cq<|Sr<|p1 Y<|dl C5A Y (AE c)<|Pe Y<|Cb<|Cl (λm_ h w'=>∃(k:Nat),∃(dn:Bool),∃(vl:Value),(k<=b.length)/\(dn=(DK (NW v) ⟨v,x⟩ b k).2)/\m_=b.length-k/\Fits h 76 [(1,.string v),(2,.string x),(10,vl),(11,.bool dn),(42,g),(43,nv b.length),(44,nv k)]/\St w ([ov [vl] ((DK (NW v) ⟨v,x⟩ b k).1:(List C1J))]) w') ?_ ?_
      ·refine CG (α:=C1J)<|A3 0 Y (show([]:(List C1J))=(DK (NW v) ⟨v,x⟩ b 0).1 from by exact tP _ _ _) λh w' f a=>⟨_,0,false,nS,?_,?_,Y,f.wk Y,a⟩
       ·omega
       ·rfl
      ·rintro m_ h w' ⟨k,dn,vl,hk,i,rfl,f,a⟩;refine D.use ?_ f a;clear f a h w';have aa:=U1 (NW v) ⟨v,x⟩ b k;refine Sr<|Pe Y<|Dh [_] Y<|Cq<|Cd Y (λo=>?_) λo=>?_
       ·refine Sk<|Cq<|Cb<|Sr ?_;obtain⟨e,d⟩:=sI b k;obtain⟨a6,p,q⟩:=AC (n:=2) rfl c d;obtain⟨rfl⟩:=D1 q;refine q1 Y (AJ (l:=b) (j:=k) C5A Y Y Y (λw' a=>rA a c) Y<|lS d)<|q1 Y (EX C6P Y Y p) (aL C5b Y λg15=>?_);refine li Y<|AZ (vs:=[.string e.q4,.string e.q3]) (cs':=[.string e.q4,.string e.q3]) 0 C7g Y Y Y Y Y Y (AB Y<|AB Y BR) (by simp) Y ?_;refine Dx<|Dh [bx g15 [.string e.q4,.string e.q3],_] Y<|Cq<|Sr<|P3 Y Y Y<|JQ 50 Y Y (λs=>?_) λs=>?_
        ·refine fl 0 C5o BK Y<|p1 Y<|q1 Y (oQ Y Y Y)<|Pe Y<|CN Y (λt=>?_) λt=>?_
         ·refine Sr<|P3 Y Y Y<|q1 Y (FY (vs:=[(0,.string v),(1,.string x)]) (cs:=[.string v,.string x]) Y (λ_=>by kernel_rfl) Y)<|li Y (FF C5A C5b Y (by decide) (by decide) Y Y Y Y Y Y λg18=>?_);refine H4 (r:=(⟨v,x⟩:C1J))<|AG [3,0,1,2] Y<|li Y (GZ C5A C5b Y (by decide) Y Y Y Y Y Y (by omega) (by omega) λa4=>?_);refine Pe Y<|Cr<|Pe Y<|AH [1,2,10,11,13,42,43,44] Y<|Dh [ov [a4] (((DK (NW v) ⟨v,x⟩ b k).1)++ [(⟨v,x⟩:C1J)]:(List C1J)),_] Y<|Cr<|p1 Y<|q1 Y (C9 1 C6P Y Y Y)<|li Y (FF C5A C5b Y (by decide) (by decide) Y Y Y Y Y Y λae=>?_);refine H4 (r:=(e:C1J))<|AG [2,0,1,3] Y<|li Y (GZ C5A C5b Y (by decide) Y Y Y Y Y Y (by simp;omega) (by simp;omega) λv21=>?_);refine p1 Y<|De<|Xb<|Xt<|Dh [ov [v21] ((((DK (NW v) ⟨v,x⟩ b k).1)++ [(⟨v,x⟩:C1J)])++ [(e:C1J)]:(List C1J)),_] Y<|Cr<|ad (k+1) Y<|Pe Y<|A3 0 Y (show((((DK (NW v) ⟨v,x⟩ b k).1)++ [(⟨v,x⟩:C1J)])++ [(e:C1J)]:(List C1J))=(DK (NW v) ⟨v,x⟩ b (k+1)).1 from by exact dY d (i.symm.trans ‹_›) (by exact VJ ‹_›)) λh w' f a=>⟨_,?_,k+1,true,v21,?_,?_,Y,f.wk Y,a.pk [0] Y Y⟩
          ·omega
          ·omega
          ·exact kV d (by exact VJ ‹_›)
         ·refine Sk<|Cr<|p1 Y<|q1 Y (C9 0 C6P Y Y Y)<|li Y (FF C5A C5b Y (by decide) (by decide) Y Y Y Y Y Y λab=>?_);refine H4 (r:=(e:C1J))<|AG [3,0,1,2] Y<|li Y (GZ C5A C5b Y (by decide) Y Y Y Y Y Y (by omega) (by omega) λy=>?_);refine p1 Y<|De<|Xb<|Xt<|AH [1,2,10,11,42,43,44] Y<|AG [0] Y<|Dh [ov [y] (((DK (NW v) ⟨v,x⟩ b k).1)++ [(e:C1J)]:(List C1J))] Y<|Cr<|ad (k+1) Y<|Pe Y<|A3 0 Y (show(((DK (NW v) ⟨v,x⟩ b k).1)++ [(e:C1J)]:(List C1J))=(DK (NW v) ⟨v,x⟩ b (k+1)).1 from by exact kT d (by exact TI ‹_›)) λh w' f a=>⟨_,?_,k+1,dn,y,?_,?_,Y,f.wk Y,a⟩
          ·omega
          ·omega
          ·exact eA d i ‹_› (by exact TI ‹_›)
        ·refine PE 5 Y<|G7 Y<|Sk<|Cr<|p1 Y<|q1 Y (C9 0 C6P Y Y Y)<|li Y (FF C5A C5b Y (by decide) (by decide) Y Y Y Y Y Y λaf=>?_);refine H4 (r:=(e:C1J))<|AG [3,0,1,2] Y<|li Y (GZ C5A C5b Y (by decide) Y Y Y Y Y Y (by omega) (by omega) λz=>?_);refine p1 Y<|De<|Xb<|Xt<|AH [1,2,10,11,42,43,44] Y<|AG [0] Y<|Dh [ov [z] (((DK (NW v) ⟨v,x⟩ b k).1)++ [(e:C1J)]:(List C1J))] Y<|Cr<|ad (k+1) Y<|Pe Y<|A3 0 Y (show(((DK (NW v) ⟨v,x⟩ b k).1)++ [(e:C1J)]:(List C1J))=(DK (NW v) ⟨v,x⟩ b (k+1)).1 from by exact kU d (i.symm.trans ‹_›)) λh w' f a=>⟨_,?_,k+1,dn,z,?_,?_,Y,f.wk Y,a⟩
         ·omega
         ·omega
         ·exact dZ d i ‹_›
       ·refine Cx<|Xx<|Xx<|Xe<|Xt<|Cq<|Sr<|PE 2 Y<|CN Y (λu=>?_) λu=>?_
        ·refine Cr<|P3 Y Y Y<|q1 Y (FY (vs:=[(0,.string v),(1,.string x)]) (cs:=[.string v,.string x]) Y (λ_=>by kernel_rfl) Y)<|li Y (FF C5A C5b Y (by decide) (by decide) Y Y Y Y Y Y λa9=>?_);refine H4 (r:=(⟨v,x⟩:C1J))<|AG [2,0,1] Y<|li Y (GZ C5A C5b Y (by decide) Y Y Y Y Y Y (by omega) (by omega) λa5=>?_);refine Pe Y<|Sr<|PE 3 Y<|Ct<|AX true<|AG [1,0] Y (DL Y (D8 Y) (D8 Y) λw' a=>AY (c1:=[a5]) (c2:=[.bool true]) a ?_ ?_)
         ·show(((DK (NW v) ⟨v,x⟩ b k).1)++ [(⟨v,x⟩:C1J)]:List C1J)=Fq b v x;exact(tT (by omega) (by omega) (i.symm.trans ‹_›)).trans (X6 ‹_› ‹_› ‹_› ‹_› (by omega)).1
         ·show(true:Bool)=GY b v x;exact(X6 ‹_› ‹_› ‹_› ‹_› (by omega)).2
        ·refine Sk<|Sr<|PE 3 Y<|Ct<|AX true<|AG [1,0] Y (DL Y (D8 Y) (D8 Y) λw' a=>AY (c1:=[vl]) (c2:=[.bool true]) a ?_ ?_)
         ·show((DK (NW v) ⟨v,x⟩ b k).1:List C1J)=Fq b v x;exact(tQ (by omega) (by omega) (i.symm.trans ‹_›)).trans (X6 ‹_› ‹_› ‹_› ‹_› (by omega)).1
         ·show(true:Bool)=GY b v x;exact(X6 ‹_› ‹_› ‹_› ‹_› (by omega)).2
theorem hE{w:World}{g:Value}{b:(List C1J)}{v:ByteArray}{x:ByteArray}(d:Gd.rd w [g] b)(a5:b.length<=1048576):Cy 324 [g,(.string v),(.string x)] w (HH w (Z8 b v x:List C1J)):=by
 have a6:=rM d;refine enter 50 Tryz.func324 Y Y Y<|Sr<|Pe Y<|Sr<|li Y (FL (α:=C1J) C5A Y Y Y λv2=>?_);refine Pe Y<|Dh [ov [v2] ([]:(List C1J))] Y<|Sr<|Pe Y<|Cq<|Sr<|Pe Y<|Cb<|Cl (λm_ i w'=>∃(k:Nat),∃(y:Bool),∃(vl:Value),(k<=b.length)/\(y=(DK (NW v) ⟨v,x⟩ b k).2)/\m_=b.length-k/\Fits i 50 [(0,g),(1,.string v),(2,.string x),(7,vl),(8,.bool y),(9,nv k)]/\St w ([ov [vl] ((DK (NW v) ⟨v,x⟩ b k).1:(List C1J))]) w') ?_ ?_
 ·refine A3 0 Y (show([]:(List C1J))=(DK (NW v) ⟨v,x⟩ b 0).1 from by exact tP _ _ _) λi w' f c=>⟨_,0,false,v2,?_,?_,Y,f.wk Y,c⟩
  ·omega
  ·rfl
 ·rintro m_ i w' ⟨k,y,vl,hk,m,rfl,f,c⟩;refine D.use ?_ f c;clear f c i w';have a8:=U1 (NW v) ⟨v,x⟩ b k;refine Cq<|Sr<|P2 Y Y<|dl C5A Y (AE d)<|Pe Y<|Dh [_] Y<|Cd Y (λz=>?_) λz=>?_
  ·refine Sk<|Cq<|Cb<|Cq<|Sr<|P3 Y Y Y<|JQ 19 Y Y (λa0=>?_) λa0=>?_
   ·refine P2 Y Y ?_;obtain⟨e,a⟩:=sI b k;obtain⟨a7,h,a1⟩:=AC (n:=2) rfl d a;obtain⟨rfl⟩:=D1 a1;refine q1 Y (AJ (l:=b) (j:=k) C5A Y Y Y (λw' c=>rA c d) Y<|lS a)<|q1 Y (B2 C5o Y Y)<|q1 Y (lr BK Y Y h Y)<|p1 Y<|q1 Y (oQ Y Y Y)<|Pe Y<|CN Y (λa2=>?_) λa2=>?_
    ·refine Sr<|P3 Y Y Y<|q1 Y (FY (vs:=[(0,.string v),(1,.string x)]) (cs:=[.string v,.string x]) Y (λ_=>by kernel_rfl) Y)<|li Y (FF C5A C5b Y (by decide) (by decide) Y Y Y Y Y Y λg9=>?_);refine H4 (r:=(⟨v,x⟩:C1J))<|AG [2,0,1] Y<|li Y (GZ C5A C5b Y (by decide) Y Y Y Y Y Y (by omega) (by omega) λa3=>?_);refine Pe Y<|Cr<|Pe Y<|AH [0,1,2,7,8,9] Y<|Dh [ov [a3] (((DK (NW v) ⟨v,x⟩ b k).1)++ [(⟨v,x⟩:C1J)]:(List C1J))] Y<|Cr<|P3 Y Y Y<|q1 Y (AJ (l:=b) (j:=k) C5A Y Y Y (λw' c=>rA c d) Y<|lS a)<|q1 Y (EX C6P Y Y h)<|li Y (FF C5A C5b Y (by decide) (by decide) Y Y Y Y Y Y λa9=>?_);refine H4 (r:=(e:C1J))<|AG [2,0,1] Y<|li Y (GZ C5A C5b Y (by decide) Y Y Y Y Y Y (by simp;omega) (by simp;omega) λu=>?_);refine p1 Y<|De<|Xb<|Xt<|Dh [ov [u] ((((DK (NW v) ⟨v,x⟩ b k).1)++ [(⟨v,x⟩:C1J)])++ [(e:C1J)]:(List C1J))] Y<|Cr<|p1 Y<|ad (k+1) Y<|Pe Y<|A3 0 Y (show((((DK (NW v) ⟨v,x⟩ b k).1)++ [(⟨v,x⟩:C1J)])++ [(e:C1J)]:(List C1J))=(DK (NW v) ⟨v,x⟩ b (k+1)).1 from by exact dY a (m.symm.trans ‹_›) (by exact VJ ‹_›)) λi w' f c=>⟨_,?_,k+1,true,u,?_,?_,Y,f.wk Y,c⟩
     ·omega
     ·omega
     ·exact kV a (by exact VJ ‹_›)
    ·refine Sk<|AH [0,1,2,7,8,9] Y<|Cr<|P3 Y Y Y<|q1 Y (AJ (l:=b) (j:=k) C5A Y Y Y (λw' c=>rA c d) Y<|lS a)<|q1 Y (EX C6P Y Y h)<|li Y (FF C5A C5b Y (by decide) (by decide) Y Y Y Y Y Y λab=>?_);refine H4 (r:=(e:C1J))<|AG [2,0,1] Y<|li Y (GZ C5A C5b Y (by decide) Y Y Y Y Y Y (by omega) (by omega) λo=>?_);refine p1 Y<|De<|Xb<|Xt<|Dh [ov [o] (((DK (NW v) ⟨v,x⟩ b k).1)++ [(e:C1J)]:(List C1J))] Y<|Cr<|p1 Y<|ad (k+1) Y<|Pe Y<|A3 0 Y (show(((DK (NW v) ⟨v,x⟩ b k).1)++ [(e:C1J)]:(List C1J))=(DK (NW v) ⟨v,x⟩ b (k+1)).1 from by exact kT a (by exact TI ‹_›)) λi w' f c=>⟨_,?_,k+1,y,o,?_,?_,Y,f.wk Y,c⟩
     ·omega
     ·omega
     ·exact eA a m ‹_› (by exact TI ‹_›)
   ·refine PE 8 Y<|G7 Y<|Sk<|AH [0,1,2,7,8,9] Y<|Cr<|P3 Y Y Y ?_;obtain⟨e,a⟩:=sI b k;obtain⟨a4,p,q⟩:=AC (n:=2) rfl d a;obtain⟨rfl⟩:=D1 q;refine q1 Y (AJ (l:=b) (j:=k) C5A Y Y Y (λw' c=>rA c d) Y<|lS a)<|q1 Y (EX C6P Y Y p)<|li Y (FF C5A C5b Y (by decide) (by decide) Y Y Y Y Y Y λg18=>?_);refine H4 (r:=(e:C1J))<|AG [2,0,1] Y<|li Y (GZ C5A C5b Y (by decide) Y Y Y Y Y Y (by omega) (by omega) λs=>?_);refine p1 Y<|De<|Xb<|Xt<|Dh [ov [s] (((DK (NW v) ⟨v,x⟩ b k).1)++ [(e:C1J)]:(List C1J))] Y<|Cr<|p1 Y<|ad (k+1) Y<|Pe Y<|A3 0 Y (show(((DK (NW v) ⟨v,x⟩ b k).1)++ [(e:C1J)]:(List C1J))=(DK (NW v) ⟨v,x⟩ b (k+1)).1 from by exact kU a (m.symm.trans ‹_›)) λi w' f c=>⟨_,?_,k+1,y,s,?_,?_,Y,f.wk Y,c⟩
    ·omega
    ·omega
    ·exact dZ a m ‹_›
  ·refine Cx<|Xx<|Xx<|Xe<|Xt<|Cq<|Sr<|PE 2 Y<|CN Y (λt=>?_) λt=>?_
   ·refine Cr<|P3 Y Y Y<|q1 Y (FY (vs:=[(0,.string v),(1,.string x)]) (cs:=[.string v,.string x]) Y (λ_=>by kernel_rfl) Y)<|li Y (FF C5A C5b Y (by decide) (by decide) Y Y Y Y Y Y λaa=>?_);refine H4 (r:=(⟨v,x⟩:C1J))<|AG [2,0,1] Y<|li Y (GZ C5A C5b Y (by decide) Y Y Y Y Y Y (by omega) (by omega) λae=>?_);refine Pe Y<|Sr<|PE 2 Y<|Ct (FV Y Y λw' c=>A7 (k:=0) c Y ?_);show((DK (NW v) ⟨v,x⟩ b k).1)++ [(⟨v,x⟩:C1J)]=Z8 b v x;exact tT (by omega) (by omega) (m.symm.trans ‹_›)
   ·refine Sk<|Sr<|PE 2 Y<|Ct (FV Y Y λw' c=>A7 (k:=0) c Y ?_);show(DK (NW v) ⟨v,x⟩ b k).1=Z8 b v x;exact tQ (by omega) (by omega) (m.symm.trans ‹_›)
theorem eR{w:World}{e:Value}{b:(List C1J)}{v:ByteArray}{x:ByteArray}(c:Gd.rd w [e] b)(r:b.length<=1048576)(s:LR KF b)(f:VP v)(k:VP x):Cy 320 [e,(.string v),(.string x)] w (O8 w (Fq b v x:List C1J) (GY b v x:Bool)):=by
 have t:=rM c;have g:=f;have h:=k;unfold VP at g h;refine enter 49 Tryz.func320 Y Y Y<|Sr<|PE 2 Y<|Cq<|Sr<|p1 Y<|qv aZ Y (λw' a=>ID (rA a c) s)<|P2 Y Y<|JQ 13 Y Y (λl=>?_) λl=>?_
 ·refine PE 9 Y<|GF Y<|Sr<|li Y (FL (α:=C1J) C5A Y Y Y λv3=>?_);refine PE 2 Y<|Ct<|Xr<|AX false<|AG [1,0] Y (DL Y (D8 Y) (D8 Y) λw' a=>AY (c1:=[v3]) (c2:=[.bool false]) a ?_ ?_)
  ·show([]:List C1J)=Fq b v x;exact(JN (.inl ‹_›)).1
  ·show(false:Bool)=GY b v x;exact(JN (.inl ‹_›)).2
 ·refine p1 Y<|qv pP Y (λw' a=>GQ ‹_›)<|P3 Y Y Y<|JQ 18 Y Y (λm=>?_) λm=>?_
  ·refine PE 4 Y<|GF Y<|Sr<|li Y (FL (α:=C1J) C5A Y Y Y λv5=>?_);refine PE 2 Y<|Ct<|Xr<|AX false<|AG [1,0] Y (DL Y (D8 Y) (D8 Y) λw' a=>AY (c1:=[v5]) (c2:=[.bool false]) a ?_ ?_)
   ·show([]:List C1J)=Fq b v x;exact(JN (.inr (.inl ‹_›))).1
   ·show(false:Bool)=GY b v x;exact(JN (.inr (.inl ‹_›))).2
  ·refine p1 Y<|qv A6v Y (λw' a=>FD ‹_›)<|PE 2 Y<|CN Y (λn=>?_) λn=>?_
   ·refine Sr<|li Y (FL (α:=C1J) C5A Y Y Y λu=>?_);refine PE 2 Y<|Ct<|Xr<|AX false<|AG [1,0] Y (DL Y (D8 Y) (D8 Y) λw' a=>AY (c1:=[u]) (c2:=[.bool false]) a ?_ ?_)
    ·show([]:List C1J)=Fq b v x;exact(JN (.inr (.inr ‹_›))).1
    ·show(false:Bool)=GY b v x;exact(JN (.inr (.inr ‹_›))).2
   ·refine Sk<|AH [0,1,2] Y<|Sr<|P2 Y Y<|lM P4 Y (λw' a=>MK (rA a c) f) (v:=(.tuple #[.string<|EJ b v,.bool<|HU b v])) Y<|PE 5 Y<|Cq<|Sr<|P2 Y Y<|gs 31 Y Y (λd=>?_) λd=>?_
    ·refine P2 Y Y<|q1 Y (DO Y Y Y)<|Pe Y<|Cd Y (λi=>?_) λi=>?_
     ·refine Sr<|p1 Y (ql bF Y (λw' a=>K6 (rA a c) ‹_›) λp=>?_);refine PE 2 Y<|Ct<|Xr<|AX true<|AG [1,0] Y (DL Y (D8 Y) (D8 Y) λw' a=>AY (c1:=[p]) (c2:=[.bool true]) a ?_ ?_)
      ·show(b:List C1J)=Fq b v x;exact(kW ‹_› ‹_› ‹_› ‹_› ‹_›).1
      ·show(true:Bool)=GY b v x;exact(kW ‹_› ‹_› ‹_› ‹_› ‹_›).2
     ·refine Sk<|Cq<|Sr<|P2 Y Y<|gkt 39 Y Y d<|PE 4 Y<|AH [0,1,2,43] Y<|GF Y<|Sr<|li Y (FL (α:=C1J) C5A Y Y Y λo=>?_);refine PE 2 Y<|Ct<|Xr<|AX false<|AG [1,0] Y (DL Y (D8 Y) (D8 Y) λw' a=>AY (c1:=[o]) (c2:=[.bool false]) a ?_ ?_)
      ·show([]:List C1J)=Fq b v x;exact(kX ‹_› ‹_›).1
      ·show(false:Bool)=GY b v x;exact(kX ‹_› ‹_›).2
    ·refine PE 4 Y<|G7 Y<|Sk<|Cq<|Sr<|P2 Y Y<|gkf 39 Y Y d<|p1 Y<|dl C5A Y (AE c)<|PE 2 Y<|AH [0,1,2,43] Y<|Ce Y (λj=>?_) λj=>?_
     ·refine Sr<|li Y (FL (α:=C1J) C5A Y Y Y λv21=>?_);refine PE 2 Y<|Ct<|Xr<|AX false<|AG [1,0] Y (DL Y (D8 Y) (D8 Y) λw' a=>AY (c1:=[v21]) (c2:=[.bool false]) a ?_ ?_)
      ·show([]:List C1J)=Fq b v x;exact(kY ‹_› (by omega)).1
      ·show(false:Bool)=GY b v x;exact(kY ‹_› (by omega)).2
     ·refine Sk<|Sr<|P3 Y Y Y (ql C8Y Y (λw' a=>hE (rA a c) ‹_›) λq=>?_);refine PE 2 Y<|Ct<|AX true<|AG [1,0] Y (DL Y (D8 Y) (D8 Y) λw' a=>AY (c1:=[q]) (c2:=[.bool true]) a ?_ ?_)
      ·show(Z8 b v x:List C1J)=Fq b v x;exact(X6 ‹_› ‹_› ‹_› ‹_› (by omega)).1
      ·show(true:Bool)=GY b v x;exact(X6 ‹_› ‹_› ‹_› ‹_› (by omega)).2
set_option maxHeartbeats 4000000 in
theorem N0{w:World}{u:List Value}{p:C1H}{v:List Value}{f:C1G}{x:Value}{b:(List C1J)}(y:Gd.rd w u p)(z:Gd.rd w v f)(q:Gd.rd w [x] b)(al:b.length<=1048576):Cy 197 [(.agg u.toArray),(.agg v.toArray),x] w (O8 w (GH p f b:List C1J) (DC p f b:Bool)):=by
 obtain⟨u1,rfl,h⟩:=B8 y;have ap:=rM h;obtain⟨u4,rfl,g⟩:=AS z;have aq:=rM g;have ar:=rM q;refine enter 77 Tryz.func197 Y Y Y<|Sr (bX Y λg8=>?_);refine bX Y λg9=>?_
 refine PE 2 Y<|Dh [bx g9 [.string f.p5,u4],bx g8 [.string p.p5,u1]] Y<|Cq<|Sr<|q1 Y (C9 1 B8m Y Y Y)<|qv A4g Y (λw' c=>GU<|rA c y)<|P2 Y Y<|JQ 16 Y Y (λa0=>?_) λa0=>?_
 ·refine PE 25 Y ?_;refine AH [2,3,4,41] Y<|GF Y<|Sr<|PE 2 Y<|Ct<|Xr<|CG (α:=C1J)<|AX false<|AG [1,0,2,3] Y (DL Y (D8 Y) (D8 Y) λw' c=>AY (c1:=[nS]) (c2:=[.bool false]) c ?_ ?_)
  ·show([]:List C1J)=GH p f b;exact(HW (FT (.inl ‹_›))).1
  ·show(false:Bool)=DC p f b;exact(HW (FT (.inl ‹_›))).2
 ·refine q1 Y (C9 0 C4N Y Y Y)<|qv A6Y Y (λw' c=>EQ<|rA c z)<|P3 Y Y Y<|JQ 21 Y Y (λa1=>?_) λa1=>?_
  ·refine PE 20 Y<|AH [2,3,4,41] Y<|GF Y<|Sr ?_;refine PE 2 Y<|Ct<|Xr<|CG (α:=C1J)<|AX false<|AG [1,0,2,3] Y (DL Y (D8 Y) (D8 Y) λw' c=>AY (c1:=[nS]) (c2:=[.bool false]) c ?_ ?_)
   ·show([]:List C1J)=GH p f b;exact(HW (FT (.inr (.inl ‹_›)))).1
   ·show(false:Bool)=DC p f b;exact(HW (FT (.inr (.inl ‹_›)))).2
  ·refine p1 Y<|qv A6y Y (λw' c=>IC<|rA c q)<|P3 Y Y Y<|JQ 26 Y Y (λa2=>?_) λa2=>?_
   ·refine PE 15 Y<|AH [2,3,4,41] Y<|GF Y<|Sr<|PE 2 Y<|Ct ?_;refine Xr<|CG (α:=C1J)<|AX false<|AG [1,0,2,3] Y (DL Y (D8 Y) (D8 Y) λw' c=>AY (c1:=[nS]) (c2:=[.bool false]) c ?_ ?_)
    ·show([]:List C1J)=GH p f b;exact(HW (FT (.inr (.inr (.inl ‹_›))))).1
    ·show(false:Bool)=DC p f b;exact(HW (FT (.inr (.inr (.inl ‹_›))))).2
   ·refine fl 1 B6e BK Y<|fl 0 C5V BK Y<|q1 Y (E5 Y Y Y)<|P2 Y Y<|A3C 33 Y Y (λa3=>?_) λa3=>?_
    ·refine PE 8 Y<|AH [2,3,4,41] Y<|GF Y<|Sr<|PE 2 Y<|Ct<|Xr<|CG (α:=C1J)<|AX false<|AG [1,0,2,3] Y (DL Y (D8 Y) (D8 Y) λw' c=>AY (c1:=[nS]) (c2:=[.bool false]) c ?_ ?_)
     ·show([]:List C1J)=GH p f b;exact(HW (FT (.inr (.inr (.inr (.inl ‹_›)))))).1
     ·show(false:Bool)=DC p f b;exact(HW (FT (.inr (.inr (.inr (.inl ‹_›)))))).2
    ·refine fl 1 B6C VN Y<|dl HJ Y (AE h)<|fl 0 C4Q VN Y<|dl HJ Y (AE g)<|PE 2 Y<|AH [2,3,4,41] Y<|Cn Y (λa4=>?_) λa4=>?_
     ·refine Sr<|PE 2 Y<|Ct<|Xr<|CG (α:=C1J)<|AX false<|AG [1,0,2,3] Y (DL Y (D8 Y) (D8 Y) λw' c=>AY (c1:=[nS]) (c2:=[.bool false]) c ?_ ?_)
      ·show([]:List C1J)=GH p f b;exact(HW (FT (.inr (.inr (.inr (.inr (by omega))))))).1
      ·show(false:Bool)=DC p f b;exact(HW (FT (.inr (.inr (.inr (.inr (by omega))))))).2
     ·refine Sk<|Sr<|p1 Y (ql A3k Y (λw' c=>KJ (rA c q) ‹_›) λa5=>?_);refine Pe Y<|Dh [ov [a5] (b:(List C1J)),_,_] Y<|Cq<|Sr<|fl 2 B6C VN Y<|dl HJ Y (AE h)<|Pe Y<|Cb<|Cl (λm_ t w'=>∃(k:Nat),∃(cur:List C1J),∃(vl:Value),(k<=p.a.length)/\(U2 p f b=true)/\(LX p f b k=some cur)/\(cur.length<=1048576)/\m_=p.a.length-k/\Fits t 77 [(4,pv g9),(8,vl),(45,u1),(46,nv p.a.length),(47,nv k)]/\St w ([ov [vl] (cur:(List C1J)),bx g9 [.string f.p5,u4],bx g8 [.string p.p5,u1]]) w') ?_ ?_
      ·refine λt w' m c=>⟨_,0,b,a5,?_,?_,?_,?_,Y,m.wk Y,c⟩
       ·omega
       ·exact tV ‹_› ‹_› ‹_› ‹_› (by omega)
       ·rfl
       ·exact al
      ·rintro m_ t w' ⟨k,cur,vl,hk,hg,o,an,rfl,m,c⟩;refine D.use ?_ m c;clear m c t w';have au:=eH hg;refine Sr<|Pe Y<|Dh [_,_,_] Y<|Cq<|Cd Y (λa6=>?_) λa6=>?_
       ·refine Sk<|Cq<|Cb<|Sr<|p1 Y ?_;obtain⟨r,d⟩:=sI p.a k;obtain⟨a7,a8,a9⟩:=AC (n:=1) rfl h d;obtain rfl:a7=[.string r]:=a9;refine q1 Y (AJ (l:=p.a) (j:=k) HJ Y Y Y (λw' c=>rA c h) Y<|lS d)<|q1 Y (HI BK Y Y a8 Y)<|PE 2 Y<|Cq<|Sr<|p1 Y<|qv pZ Y (λw' c=>FC)<|Dx<|Ci _ Y (λam=>?_) λam=>?_
        ·refine Cq<|Sr<|p1 Y<|fl 1 C4Q VN Y<|p1 Y ?_;obtain⟨i,e⟩:=sI f.a k;obtain⟨aa,ab,ae⟩:=AC (n:=1) rfl g e;obtain rfl:aa=[.string i]:=ae;refine q1 Y (AJ (l:=f.a) (j:=k) HJ Y Y Y (λw' c=>rA c g) Y<|lS e)<|q1 Y (HI BK Y Y ab Y)<|q1 Y (E5 Y Y Y)<|Dx<|R8 Y (λaf=>?_) λaf=>?_
         ·refine Sr<|PE 2 Y<|Ct<|Xr<|Xr<|Xq<|Xr<|Xr<|Xq<|Xr<|CG (α:=C1J)<|AX false<|AG [1,0,2,3,4] Y (DL Y (D8 Y) (D8 Y) λw' c=>AY (c1:=[nS]) (c2:=[.bool false]) c ?_ ?_)
          ·show([]:List C1J)=GH p f b;exact(SN (lS d) (TC o d e ‹_› ‹_›)).1
          ·show(false:Bool)=DC p f b;exact(SN (lS d) (TC o d e ‹_› ‹_›)).2
         ·refine Sk<|AH [4,8,45,46,47] Y<|Cx<|Xx<|Xe<|Xt<|Cr<|ad (k+1) Y<|Pe Y λt w' m c=>⟨_,?_,k+1,cur,vl,?_,?_,?_,?_,Y,m.wk Y,c⟩
          ·omega
          ·omega
          ·exact hg
          ·exact tX o d e ‹_› ‹_›
          ·exact an
        ·refine Sk<|Sr<|P2 Y Y<|fl 1 C4Q VN Y<|p1 Y ?_;obtain⟨i,e⟩:=sI f.a k;obtain⟨ag,ah,ai⟩:=AC (n:=1) rfl g e;obtain rfl:ag=[.string i]:=ai;refine q1 Y (AJ (l:=f.a) (j:=k) HJ Y Y Y (λw' c=>rA c g) Y<|lS e)<|q1 Y (HI BK Y Y ah Y) (qc2 zQ Y (λw' c=>eQ (rO (k:=0) c Y) ‹_›) λao aj=>?_);refine Dp (λw' c=>CL<|rO (k:=0) c Y) ?_;rintro⟨s,rfl⟩;refine Dp (λw' c=>show aj=[(.bool (GY cur r i))] from rO (k:=1) c Y) ?_;rintro rfl;refine MS 69 (v':=(.tuple #[s,.bool<|GY cur r i])) Y Y Y<|AG [0,2,3,4] Y<|PE 5 Y<|AH [4,11,12,45,46,47] Y<|Dh [ov [s] (Fq cur r i:(List C1J)),_,_,_] Y<|Cq<|Sr<|PE 2 Y<|CN Y (λak=>?_) λak=>?_
         ·refine Sr<|PE 2 Y<|Ct<|Xr<|Xq<|Xr<|Xr<|Xq<|Xr<|CG (α:=C1J)<|AX false<|AG [1,0,2,3,4,5] Y (DL Y (D8 Y) (D8 Y) λw' c=>AY (c1:=[nS]) (c2:=[.bool false]) c ?_ ?_)
          ·show([]:List C1J)=GH p f b;exact(SN (lS d) (TD o d e ‹_› ‹_›)).1
          ·show(false:Bool)=DC p f b;exact(SN (lS d) (TD o d e ‹_› ‹_›)).2
         ·refine Sk<|Cr<|P2 Y Y<|De<|Xb<|Xt<|Cr<|ad (k+1) Y<|Pe Y<|A3 0 Y (show(Fq cur r i:(List C1J))=(Fq cur r i) from by rfl) λt w' m c=>⟨_,?_,k+1,Fq cur r i,s,?_,?_,?_,?_,Y,m.wk Y,c.pk [0,2,3] Y Y⟩
          ·omega
          ·omega
          ·exact hg
          ·exact tY o d e ‹_› ‹_›
          ·exact Nat.le_trans eE (by decide)
       ·refine Cx<|Xx<|Xx<|Xe<|Xt<|Sr<|PE 3 Y<|Ct<|AX true<|AG [1,0,2,3] Y (DL Y (D8 Y) (D8 Y) λw' c=>AY (c1:=[vl]) (c2:=[.bool true]) c ?_ ?_)
        ·show(cur:List C1J)=GH p f b;exact(kZ hg (by omega) o).1
        ·show(true:Bool)=DC p f b;exact(kZ hg (by omega) o).2
set_option maxHeartbeats 4000000 in
theorem N1{w:World}{a0:List Value}{p:C1H}{a1:List Value}{f:C1G}{a2:Value}{b:(List C1J)}(a3:Gd.rd w a0 p)(a4:Gd.rd w a1 f)(t:Gd.rd w [a2] b)(ao:b.length<=1048576)(ho:LR KF b)(m:IP p)(u:P9 f):Cy 312 [(.agg a0.toArray),(.agg a1.toArray),a2] w (O8 w (GH p f b:List C1J) (DC p f b:Bool)):=by
 obtain⟨u1,rfl,g⟩:=B8 a3;have b1:=rM g;obtain⟨u4,rfl,h⟩:=AS a4;have b2:=rM h;have b3:=rM t;refine enter 89 Tryz.func312 Y Y Y<|Sr (bX Y λg8=>?_);refine bX Y λg9=>?_
 refine PE 2 Y<|Dh [bx g9 [.string f.p5,u4],bx g8 [.string p.p5,u1]] Y<|Cq<|Sr<|q1 Y (C9 1 B8m Y Y Y)<|qv TS Y (λw' c=>GV (rA c a3) m)<|P2 Y Y<|JQ 15 Y Y (λa5=>?_) λa5=>?_
 ·refine PE 25 Y ?_;refine AH [2,3,4,40] Y<|GF Y<|Sr<|li Y (FL (α:=C1J) C5A Y Y Y λap=>?_);refine PE 2 Y<|Ct<|Xr<|AX false<|AG [1,0,2,3] Y (DL Y (D8 Y) (D8 Y) λw' c=>AY (c1:=[ap]) (c2:=[.bool false]) c ?_ ?_)
  ·show([]:List C1J)=GH p f b;exact(HW (FT (.inl ‹_›))).1
  ·show(false:Bool)=DC p f b;exact(HW (FT (.inl ‹_›))).2
 ·refine q1 Y (C9 0 C4N Y Y Y)<|qv B3s Y (λw' c=>ER (rA c a4) u)<|P3 Y Y Y<|JQ 20 Y Y (λa6=>?_) λa6=>?_
  ·refine PE 20 Y<|AH [2,3,4,40] Y<|GF Y<|Sr ?_;refine li Y (FL (α:=C1J) C5A Y Y Y λaq=>?_);refine PE 2 Y<|Ct<|Xr<|AX false<|AG [1,0,2,3] Y (DL Y (D8 Y) (D8 Y) λw' c=>AY (c1:=[aq]) (c2:=[.bool false]) c ?_ ?_)
   ·show([]:List C1J)=GH p f b;exact(HW (FT (.inr (.inl ‹_›)))).1
   ·show(false:Bool)=DC p f b;exact(HW (FT (.inr (.inl ‹_›)))).2
  ·refine p1 Y<|qv aZ Y (λw' c=>ID (rA c t) ho)<|P3 Y Y Y<|JQ 25 Y Y (λa7=>?_) λa7=>?_
   ·refine PE 15 Y<|AH [2,3,4,40] Y<|GF Y<|Sr<|li Y (FL (α:=C1J) C5A Y Y Y λar=>?_);refine PE 2 Y<|Ct<|Xr<|AX false<|AG [1,0,2,3] Y (DL Y (D8 Y) (D8 Y) λw' c=>AY (c1:=[ar]) (c2:=[.bool false]) c ?_ ?_)
    ·show([]:List C1J)=GH p f b;exact(HW (FT (.inr (.inr (.inl ‹_›))))).1
    ·show(false:Bool)=DC p f b;exact(HW (FT (.inr (.inr (.inl ‹_›))))).2
   ·refine fl 1 B6e BK Y<|fl 0 C5V BK Y<|q1 Y (E5 Y Y Y)<|P2 Y Y<|A3C 32 Y Y (λa8=>?_) λa8=>?_
    ·refine PE 8 Y<|AH [2,3,4,40] Y<|GF Y<|Sr<|li Y (FL (α:=C1J) C5A Y Y Y λax=>?_);refine PE 2 Y<|Ct<|Xr<|AX false<|AG [1,0,2,3] Y (DL Y (D8 Y) (D8 Y) λw' c=>AY (c1:=[ax]) (c2:=[.bool false]) c ?_ ?_)
     ·show([]:List C1J)=GH p f b;exact(HW (FT (.inr (.inr (.inr (.inl ‹_›)))))).1
     ·show(false:Bool)=DC p f b;exact(HW (FT (.inr (.inr (.inr (.inl ‹_›)))))).2
    ·refine fl 1 B6C VN Y<|dl HJ Y (AE g)<|fl 0 C4Q VN Y<|dl HJ Y (AE h)<|PE 2 Y<|AH [2,3,4,40] Y<|Cn Y (λa9=>?_) λa9=>?_
     ·refine Sr<|li Y (FL (α:=C1J) C5A Y Y Y λau=>?_);refine PE 2 Y<|Ct<|Xr<|AX false<|AG [1,0,2,3] Y (DL Y (D8 Y) (D8 Y) λw' c=>AY (c1:=[au]) (c2:=[.bool false]) c ?_ ?_)
      ·show([]:List C1J)=GH p f b;exact(HW (FT (.inr (.inr (.inr (.inr (by omega))))))).1
      ·show(false:Bool)=DC p f b;exact(HW (FT (.inr (.inr (.inr (.inr (by omega))))))).2
     ·refine Sk<|Sr<|p1 Y (ql bF Y (λw' c=>K6 (rA c t) ‹_›) λv20=>?_);refine Pe Y<|Dh [ov [v20] (b:(List C1J)),_,_] Y<|Cq<|Sr<|Pe Y<|Cb<|Cl (λm_ z w'=>∃(k:Nat),∃(cur:List C1J),∃(vl:Value),(k<=p.a.length)/\(U2 p f b=true)/\(LX p f b k=some cur)/\(cur.length<=1048576)/\(LR KF cur)/\m_=p.a.length-k/\Fits z 89 [(3,pv g8),(4,pv g9),(8,vl),(9,nv k)]/\St w ([ov [vl] (cur:(List C1J)),bx g9 [.string f.p5,u4],bx g8 [.string p.p5,u1]]) w') ?_ ?_
      ·refine λz w' r c=>⟨_,0,b,v20,?_,?_,?_,?_,?_,Y,r.wk Y,c⟩
       ·omega
       ·exact tV ‹_› ‹_› ‹_› ‹_› (by omega)
       ·rfl
       ·exact ao
       ·exact ho
      ·rintro m_ z w' ⟨k,cur,vl,hk,hg,s,aw,x,rfl,r,c⟩;refine D.use ?_ r c;clear r c z w';have b4:=eH hg;refine Cq<|Sr<|p1 Y<|fl 2 B6C VN Y<|dl HJ Y (AE g)<|Pe Y<|Dh [_,_,_] Y<|Cd Y (λaa=>?_) λaa=>?_
       ·refine Sk<|Cq<|Cb<|Cq<|Sr<|fl 2 B6C VN Y<|p1 Y ?_;obtain⟨v,d⟩:=sI p.a k;obtain⟨ab,i,ae⟩:=AC (n:=1) rfl g d;obtain rfl:ab=[.string v]:=ae;refine q1 Y (AJ (l:=p.a) (j:=k) HJ Y Y Y (λw' c=>rA c g) Y<|lS d)<|q1 Y (HI BK Y Y i Y)<|qv A6v Y (λw' c=>FD<|m.2 _<|List.mem_of_getElem? d)<|Dx<|Ci _ Y (λav=>?_) λav=>?_
        ·refine Cq<|Cq<|A0 mixed [] (by kernel_rfl)<|Tk 0 Y Y (Db B6C Y Y (q:=1) Y)<|Tk 1 Y Y (lb 2 VN Y Y Y Y)<|tR 2 Y Y<|Tk 3 Y Y (AJ (l:=p.a) (j:=k) HJ Y Y Y (λw' c=>rA c g) Y<|lS d)<|Tk 4 Y Y (HI BK Y Y i Y)<|Tk 5 Y Y (Db C4Q Y Y (q:=1) Y)<|Tk 6 Y Y (lb 1 VN Y Y Y Y)<|tR 7 Y Y ?_;obtain⟨o,e⟩:=sI f.a k;obtain⟨af,ag,ah⟩:=AC (n:=1) rfl h e;obtain rfl:af=[.string o]:=ah;refine Tk 8 Y Y (AJ (l:=f.a) (j:=k) HJ Y Y Y (λw' c=>rA c h) Y<|lS e)<|Tk 9 Y Y (HI BK Y Y ag Y)<|Tk 10 Y Y (E5 Y Y Y)<|tE<|Xt<|AH [3,4,8,9,67] Y<|R8 Y (λai=>?_) λai=>?_
         ·refine Sr<|li Y (FL (α:=C1J) C5A Y Y Y λaz=>?_);refine PE 2 Y<|Ct<|Xr<|Xr<|Xq<|Xr<|Xr<|Xq<|Xr<|AX false<|AG [1,0,2,3,4] Y (DL Y (D8 Y) (D8 Y) λw' c=>AY (c1:=[az]) (c2:=[.bool false]) c ?_ ?_)
          ·show([]:List C1J)=GH p f b;exact(SN (lS d) (TC s d e ‹_› ‹_›)).1
          ·show(false:Bool)=DC p f b;exact(SN (lS d) (TC s d e ‹_› ‹_›)).2
         ·refine Sk<|Cx<|Xx<|Xe<|Xt<|Cr<|p1 Y<|ad (k+1) Y<|Pe Y λz w' r c=>⟨_,?_,k+1,cur,vl,?_,?_,?_,?_,?_,Y,r.wk Y,c⟩
          ·omega
          ·omega
          ·exact hg
          ·exact tX s d e ‹_› ‹_›
          ·exact aw
          ·exact x
        ·refine Sk<|Cq<|A0 mixed [11,12,16] (by kernel_rfl)<|tR 0 Y Y<|Tk 1 Y Y (Db B6C Y Y (q:=1) Y)<|Tk 2 Y Y (lb 2 VN Y Y Y Y)<|tR 3 Y Y<|Tk 4 Y Y (AJ (l:=p.a) (j:=k) HJ Y Y Y (λw' c=>rA c g) Y<|lS d)<|Tk 5 Y Y (HI BK Y Y i Y)<|Tk 6 Y Y (Db C4Q Y Y (q:=1) Y)<|Tk 7 Y Y (lb 1 VN Y Y Y Y)<|tR 8 Y Y ?_;obtain⟨o,e⟩:=sI f.a k;obtain⟨aj,ak,al⟩:=AC (n:=1) rfl h e;obtain rfl:aj=[.string o]:=al;refine Tk 9 Y Y (AJ (l:=f.a) (j:=k) HJ Y Y Y (λw' c=>rA c h) Y<|lS e)<|Tk 10 Y Y (HI BK Y Y ak Y)<|ty 11 Y Y (cr2 C8Z Y Y Y Y (λw' c=>eR (rO (k:=0) c Y) ‹_› x (m.2 _<|List.mem_of_getElem? d)<|u.2 _<|List.mem_of_getElem? e) λb0 am=>?_);refine Dp (λw' c=>CL<|rO (k:=0) c Y) ?_;rintro⟨y,rfl⟩;refine Dp (λw' c=>show am=[(.bool (GY cur v o))] from rO (k:=1) c Y) ?_;rintro rfl;refine MS 81 (v':=(.tuple #[y,.bool<|GY cur v o])) Y Y Y<|AG [0,2,3,4] Y<|tZ Y<|tW 12 Y Y Y<|Tj 13 Y Y (λ_ c=>c.pk [1,2,3] Y Y) (rp Y)<|Tj 14 Y Y (λ_ c=>c.pk [1,2,3] Y Y) (rp Y)<|Tj 15 Y Y (λ_ c=>c.pk [1,2,3] Y Y) (rp Y)<|tW 16 Y Y Y<|tE<|Xt<|AH [3,4,9,10,11] Y<|Dh [ov [y] (Fq cur v o:(List C1J)),_,_,_] Y<|Cq<|Sr<|PE 2 Y<|CN Y (λan=>?_) λan=>?_
         ·refine Sr<|li Y (FL (α:=C1J) C5A Y Y Y λay=>?_);refine PE 2 Y<|Ct<|Xr<|Xq<|Xr<|Xr<|Xq<|Xr<|AX false<|AG [1,0,2,3,4,5] Y (DL Y (D8 Y) (D8 Y) λw' c=>AY (c1:=[ay]) (c2:=[.bool false]) c ?_ ?_)
          ·show([]:List C1J)=GH p f b;exact(SN (lS d) (TD s d e ‹_› ‹_›)).1
          ·show(false:Bool)=DC p f b;exact(SN (lS d) (TD s d e ‹_› ‹_›)).2
         ·refine Sk<|Cr<|P2 Y Y<|De<|Xb<|Xt<|Cr<|p1 Y<|ad (k+1) Y<|Pe Y<|A3 0 Y (show(Fq cur v o:(List C1J))=(Fq cur v o) from by rfl) λz w' r c=>⟨_,?_,k+1,Fq cur v o,y,?_,?_,?_,?_,?_,Y,r.wk Y,c.pk [0,2,3] Y Y⟩
          ·omega
          ·omega
          ·exact hg
          ·exact tY s d e ‹_› ‹_›
          ·exact Nat.le_trans eE (by decide)
          ·exact yQ x (m.2 _ (List.mem_of_getElem? d)) (u.2 _ (List.mem_of_getElem? e))
       ·refine Cx<|Xx<|Xx<|Xe<|Xt<|Sr<|PE 3 Y<|Ct<|AX true<|AG [1,0,2,3] Y (DL Y (D8 Y) (D8 Y) λw' c=>AY (c1:=[vl]) (c2:=[.bool true]) c ?_ ?_)
        ·show(cur:List C1J)=GH p f b;exact(kZ hg (by omega) s).1
        ·show(true:Bool)=DC p f b;exact(kZ hg (by omega) s).2
end Go.Sy.Mat1
