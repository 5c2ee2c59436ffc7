/-
  Contracts of functions of the program, walked (printed by a program of ours).
  Conditions: those that each theorem states.
-/
import Derived.Test.YtfmjgnjaoihefaaGreatDoorFct
import Derived.Test.YtfmjgnjaoihefaaGreatDoorCho2
import Derived.Test.YtfmjgnjaoihefaaGreatDoorMat
set_option linter.unusedVariables false
set_option maxRecDepth 20000
namespace Go.Sy.Mat1
open Go Go.RowKit Go.Proofs Go.Sy
open Go.Sy.Bel1 Go.Sy.Bel3 Go.Sy.Ev1 Go.Sy.Ev2 Go.Sy.Ev3 Go.Sy.Fmt1 Go.Sy.Eng1 Go.Sy.Eng2 Go.Sy.Eng3 Go.Sy.Eng4 Go.Sy.Eng5 Go.Sy.Num1 Go.Sy.Num2 Go.Sy.Fal2 Go.Sy.Cho2
theorem IC{w:World}{d:Value}{b:(List Pair)}(a:Gd.rd w [d] b):Cy 114 [d] w (Val w (.bool (D7 b))):=by
 have a0:=rM a;refine enter 41 Tryz.func114 Y Y Y (Sr (Pe Y (Cq (Sr (p1 Y (dl CU Y (AE a) (Pe Y (Cd Y (λs=>?_) (λs=>?_)))))))))
 ·refine Sr (Pe Y (Ct (Xr (Rb Y Y ?_))));exact A2b (by omega)
 ·refine Sk (Cq (Sr (p1 Y (dl CU Y (AE a) (Pe Y (Cb (Cl (λm_ ac w'=>∃(k:Nat),(k<=b.length)/\(∀i,i<k->GB b i=true)/\m_=b.length-k/\Fits ac 41 [(0,d),(8,d),(9,(nv b.length)),(10,(nv k))]/\St w ([]) w') ?_ ?_)))))))
  ·refine λac w' hf hs=>⟨_,0,?_,?_,Y,hf.wk Y,hs⟩
   ·omega
   ·intro i hi;omega
  ·rintro m_ ac w' ⟨k,hk,hi,rfl,hf,hs⟩;refine D.use ?_ hf hs;clear hf hs ac w';refine Sr (Pe Y (Cq (Cd Y (λt=>?_) (λt=>?_))))
   ·refine Sk (Cq (Cb (Sr (p1 Y ?_))));obtain⟨f,c⟩:=sI b k;obtain⟨a1,u,v⟩:=AC (n:=2) rfl a c;obtain⟨rfl⟩:=D1 v;refine q1 Y (AJ (l:=b) (j:=k) CU Y Y Y (λw' hs=>(rA hs a)) Y (lS c)) (q1 Y (EX M4 Y Y u) (aL GC Y λg7=>?_));refine p1 Y (li Y (AZ (vs:=[(.string f.Var),(.string f.Value)]) (cs':=[(.string f.Var),(.string f.Value)]) 0 qF Y Y Y Y Y Y (AB Y (AB Y BR)) (by simp) Y ?_));refine Dx (Dh ([bx g7 [(.string f.Var),(.string f.Value)]]) Y (Cq (A0 mixed [2,3,4,5,6,7,8,9,10,11,12,13,22,23,24] (by kernel_rfl) (Tk 0 Y Y (Db GJ Y Y (q:=0) Y) (Tk 1 Y Y (lb 0 BK Y Y Y Y) (ty 2 Y Y (cv aZ Y Y Y Y (λw' hs=>J9) ?_)))))));refine tZ Y (tW 3 Y Y Y (tW 4 Y Y Y (JQ 19 Y Y (λx=>?_) (λx=>?_))))
    ·refine tK 16 [5,6,7,8] Y (tW 9 Y Y Y (tW 10 Y Y Y (tK 1 [11,12,13,14,15,16,17,18,19,20,21,22,23] Y (tW 24 Y Y Y (tE (Xt (AH [0,8,9,10,39] Y (AG [] Y ?_))))))));refine GF Y (Sr (Pe Y (Ct (Xq (Xr (Xr (Xq (Xr (Rb Y Y ?_)))))))));exact RU (k:=k) (by omega) (X2 c ‹_›)
    ·refine ty 5 Y Y (sv Y Y (Db KU Y Y (q:=1) Y) ?_);refine tZ Y (ty 6 Y Y (sv Y Y (lb 0 BK Y Y Y Y) ?_));refine tZ Y (ty 7 Y Y (cv P4 Y Y Y Y (λw' hs=>FC) ?_));refine tZ Y (tW 8 Y Y Y (tW 9 Y Y Y (tW 10 Y Y Y (JQ 25 Y Y (λy=>?_) (λy=>?_)))))
     ·refine tK 1 [11,12,13,14,15,16,17,18,19,20,21,22,23] Y (tW 24 Y Y Y (tE (Xt (AH [0,8,9,10,39] Y (AG [] Y (GF Y (Sr (Pe Y ?_))))))));refine Ct (Xq (Xr (Xr (Xq (Xr (Rb Y Y ?_))))));exact RU (k:=k) (by omega) (X3 c ‹_›)
     ·refine tW 11 Y Y Y (tW 12 Y Y Y (tW 13 Y Y Y (EY 28 Y Y (λg=>?_) (λg=>?_))))
      ·refine tK 9 [14,15] Y (Tk 16 Y Y (B3 Y Y Y (r:=((k-1:Nat):Int)) (by omega) (by omega)) ?_);obtain⟨p0,e⟩:=sI b (k-1);obtain⟨z,m,o⟩:=AC (n:=2) rfl a e;obtain⟨rfl⟩:=D1 o;refine Tk 17 Y Y (AJ (l:=b) (j:=(k-1)) CU Y Y Y (λw' hs=>(rA hs a)) Y (lS e)) (Tk 18 Y Y (B2 GJ Y Y) (Tk 19 Y Y (lr BK Y Y m Y) (Tk 20 Y Y (Db GJ Y Y (q:=0) Y) (Tk 21 Y Y (lb 0 BK Y Y Y Y) (ty 22 Y Y (sv Y Y (oP Y Y Y) ?_))))));refine tZ Y (tW 23 Y Y Y (tW 24 Y Y Y (tE (Xt (AH [0,8,9,10,39] Y (AG [] Y (CN Y (λp=>?_) (λp=>?_))))))))
       ·refine Sr (Pe Y (Ct (Xq (Xr (Xr (Xq (Xr (Rb Y Y ?_))))))));exact RU (k:=k) (by omega) (X4 c e (by omega) ‹_›)
       ·refine Ck (Xb (Xt (Cr (ad (k+1) Y (Pe Y (λac w' hf hs=>⟨_,?_,k+1,?_,?_,Y,hf.wk Y,hs⟩))))))
        ·omega
        ·omega
        ·refine AF hi ?_;exact dX c e (by omega) ‹_› ‹_› ‹_›
      ·refine tK 2 [14,15,16,17,18,19,20,21,22] Y (tW 23 Y Y Y (tW 24 Y Y Y (tE (Xt (AH [0,8,9,10,39] Y (AG [] Y (G7 Y (Ck (Xb (Xt (Cr (ad (k+1) Y (Pe Y ?_)))))))))))));refine λac w' hf hs=>⟨_,?_,k+1,?_,?_,Y,hf.wk Y,hs⟩
       ·omega
       ·omega
       ·refine AF hi ?_;exact dW c ‹_› ‹_› (by omega)
   ·refine Cx (Xx (Xx (Xe (Xt (Sr (Pe Y (Ct (Rb Y Y ?_))))))));exact A5r (by omega) (λi h=>hi i (by omega))
theorem ID{w:World}{e:Value}{b:(List Pair)}(c:Gd.rd w [e] b)(y:LR KF b):Cy 153 [e] w (Val w (.bool (D7 b))):=by
 have z:=rM c;refine enter 47 Tryz.func153 Y Y Y (Sr (Pe Y (Cq (Sr (Pe Y (Cb (Cl (λm_ ac w'=>∃(k:Nat),(k<=b.length)/\(∀i,i<k->GB b i=true)/\m_=b.length-k/\Fits ac 47 [(0,e),(3,(nv k))]/\St w ([]) w') ?_ ?_)))))))
 ·refine λac w' hf hs=>⟨_,0,?_,?_,Y,hf.wk Y,hs⟩
  ·omega
  ·intro i hi;omega
 ·rintro m_ ac w' ⟨k,hk,hi,rfl,hf,hs⟩;refine D.use ?_ hf hs;clear hf hs ac w';refine Cq (Sr (P2 Y Y (dl CU Y (AE c) (Pe Y (Cd Y (λo=>?_) (λo=>?_))))))
  ·refine Sk (Cq (Cb (Cq (A0 mixed [5,6,7,10,11,12,13,14,15,16,17,18,19,31,32,33] (by kernel_rfl) (tK 32 [0,1] Y ?_)))));obtain⟨u,a⟩:=sI b k;have hox:=y _ (List.mem_of_getElem? a);have v:u.Var.size<=9223372036854775807:=hox.1;have x:u.Value.size<=9223372036854775807:=hox.2;obtain⟨a0,at4,p⟩:=AC (n:=2) rfl c a;obtain⟨rfl⟩:=D1 p;refine Tk 2 Y Y (AJ (l:=b) (j:=k) CU Y Y Y (λw' hs=>(rA hs c)) Y (lS a)) (Tk 3 Y Y (B2 GJ Y Y) (Tk 4 Y Y (lr BK Y Y at4 Y) (ty 5 Y Y (cv SD Y Y Y Y (λw' hs=>(GQ ‹_›)) ?_))));refine tZ Y (tW 6 Y Y Y (tW 7 Y Y Y (JQ 17 Y Y (λq=>?_) (λq=>?_))))
   ·refine tK 19 [8,9,10,11,12,13,14] Y (tW 15 Y Y Y (tW 16 Y Y Y (tK 2 [17,18,19,20,21,22,23,24,25,26,27,28,29,30,31] Y ?_)));refine tN 32 Y Y (tW 33 Y Y Y (tE (Xt (AH [0,3,43] Y (GF Y (Sr (Pe Y (Ct (Xq (Xr (Xr (Xq (Xr (Rb Y Y ?_))))))))))))));exact RU (k:=k) (by omega) (X2 a ‹_›)
   ·refine tK 24 [8,9] Y (ty 10 Y Y (sv Y Y (AJ (l:=b) (j:=k) CU Y Y Y (λw' hs=>(rA hs c)) Y (lS a)) ?_));refine tZ Y (ty 11 Y Y (sv Y Y (B2 KU Y Y) ?_));refine tZ Y (ty 12 Y Y (sv Y Y (lr BK Y Y at4 Y) ?_));refine tZ Y (ty 13 Y Y (cv P5 Y Y Y Y (λw' hs=>(FD ‹_›)) ?_));refine tZ Y (tW 14 Y Y Y (tW 15 Y Y Y (tW 16 Y Y Y (JQ 26 Y Y (λs=>?_) (λs=>?_)))))
    ·refine tK 1 [17,18,19,20,21,22,23,24,25,26,27,28,29,30,31,32] Y (tW 33 Y Y Y (tE (Xt (AH [0,3,43] Y (GF Y (Sr (p1 Y ?_)))))));refine Dx (Ct (Xq (Xr (Xr (Xq (Xr (Rb Y Y ?_)))))));exact RU (k:=k) (by omega) (X3 a ‹_›)
    ·refine tW 17 Y Y Y (tW 18 Y Y Y (tW 19 Y Y Y (EY 29 Y Y (λt=>?_) (λt=>?_))))
     ·refine tK 12 [20,21] Y (Tk 22 Y Y (B3 Y Y Y (r:=((k-1:Nat):Int)) (by omega) (by omega)) ?_);obtain⟨p0,d⟩:=sI b (k-1);obtain⟨a1,f,g⟩:=AC (n:=2) rfl c d;obtain⟨rfl⟩:=D1 g;refine Tk 23 Y Y (AJ (l:=b) (j:=(k-1)) CU Y Y Y (λw' hs=>(rA hs c)) Y (lS d)) (Tk 24 Y Y (B2 GJ Y Y) (Tk 25 Y Y (lr BK Y Y f Y) (tK 6 [26,27] Y (Tk 28 Y Y (AJ (l:=b) (j:=k) CU Y Y Y (λw' hs=>(rA hs c)) Y (lS a)) (Tk 29 Y Y (B2 GJ Y Y) (Tk 30 Y Y (lr BK Y Y at4 Y) (ty 31 Y Y (sv Y Y (oP Y Y Y) ?_))))))));refine tZ Y (tW 32 Y Y Y (tW 33 Y Y Y (tE (Xt (AH [0,3,43] Y (CN Y (λm=>?_) (λm=>?_)))))))
      ·refine Sr (Pe Y (Ct (Xq (Xr (Xr (Xq (Xr (Rb Y Y ?_))))))));exact RU (k:=k) (by omega) (X4 a d (by omega) ‹_›)
      ·refine Ck (Xb (Xt (Cr (p1 Y (ad (k+1) Y (Pe Y (λac w' hf hs=>⟨_,?_,k+1,?_,?_,Y,hf.wk Y,hs⟩)))))))
       ·omega
       ·omega
       ·refine AF hi ?_;exact dX a d (by omega) ‹_› ‹_› ‹_›
     ·refine tK 2 [20,21,22,23,24,25,26,27,28,29,30,31] Y (tW 32 Y Y Y (tW 33 Y Y Y (tE (Xt (AH [0,3,43] Y (G7 Y (Ck (Xb (Xt (Cr (p1 Y (ad (k+1) Y ?_))))))))))));refine Pe Y (λac w' hf hs=>⟨_,?_,k+1,?_,?_,Y,hf.wk Y,hs⟩)
      ·omega
      ·omega
      ·refine AF hi ?_;exact dW a ‹_› ‹_› (by omega)
  ·refine Cx (Xx (Xx (Xe (Xt (Sr (p1 Y (dl CU Y (AE c) (P2 Y Y (Dx (Ct (Rb Y Y ?_)))))))))));show((decide ((((b.length:Nat):Int):Int)<=6)):Bool)=_;exact A5s (λi h=>hi i (by omega))
theorem MJ{w:World}{e:Value}{b:(List Pair)}{t:ByteArray}(d:Gd.rd w [e] b):Cy 115 [e,(.string t)] w (O8 w (EJ b t:ByteArray) (HU b t:Bool)):=by
 have q:=rM d;refine enter 27 Tryz.func115 Y Y Y (Sr (P2 Y Y (Dx (Cq (Sr (p1 Y (qv P4 Y (λw' hs=>FC) (Dx (Ci _ Y (λr=>?_) (λr=>?_))))))))))
 ·refine Sr (P3 Y Y Y (Dx (Ct (Xr (OI t (AX true (AG [1,0] Y (DL Y (D8 Y) (D8 Y) λw' hs=>AY (c1:=[(.string t)]) (c2:=[(.bool true)]) hs ?_ ?_))))))))
  ·show(t:ByteArray)=EJ b t;exact(kR ‹_›).1
  ·show(true:Bool)=HU b t;exact(kR ‹_›).2
 ·refine Sk (Cq (Sr (p1 Y (qv aZ Y (λw' hs=>J9) (Pe Y (CN Y (λf=>?_) (λf=>?_)))))))
  ·refine Sr (P2 Y Y (Dx (Ct (Xr (OI (⟨#[]⟩) (AX false (AG [1,0] Y (DL Y (D8 Y) (D8 Y) λw' hs=>AY (c1:=[(.string ⟨#[]⟩)]) (c2:=[(.bool false)]) hs ?_ ?_))))))))
   ·show(⟨#[]⟩:ByteArray)=EJ b t;exact(X5 ‹_› (.inl ‹_›)).1
   ·show(false:Bool)=HU b t;exact(X5 ‹_› (.inl ‹_›)).2
  ·refine Sk (Cq (Sr (p1 Y (dl CU Y (AE d) (Pe Y (Cb (Cl (λm_ ac w'=>∃(k:Nat),(k<=b.length)/\(∀i,i<k->∀y,b[i]?=some y->¬(y.Var=t/\BM t=true))/\m_=b.length-k/\Fits ac 27 [(1,(.string t)),(14,e),(15,(nv b.length)),(16,(nv k))]/\St w ([]) w') ?_ ?_)))))))
   ·refine λac w' hf hs=>⟨_,0,?_,?_,Y,hf.wk Y,hs⟩
    ·omega
    ·intro i hi;omega
   ·rintro m_ ac w' ⟨k,hk,hi,rfl,hf,hs⟩;refine D.use ?_ hf hs;clear hf hs ac w';refine Sr (Pe Y (Cq (Cd Y (λg=>?_) (λg=>?_))))
    ·refine Sk (Cq (Cb (Sr ?_)));obtain⟨c,a⟩:=sI b k;obtain⟨s,m,o⟩:=AC (n:=2) rfl d a;obtain⟨rfl⟩:=D1 o;refine q1 Y (AJ (l:=b) (j:=k) CU Y Y Y (λw' hs=>(rA hs d)) Y (lS a)) (q1 Y (EX M4 Y Y m) (aL GC Y λg8=>?_));refine li Y (AZ (vs:=[(.string c.Var),(.string c.Value)]) (cs':=[(.string c.Var),(.string c.Value)]) 0 qF Y Y Y Y Y Y (AB Y (AB Y BR)) (by simp) Y ?_);refine Dx (Dh ([bx g8 [(.string c.Var),(.string c.Value)]]) Y (Sr (fl 0 GJ BK Y (p1 Y (q1 Y (DO Y Y Y) (Dx (Cd Y (λp=>?_) (λp=>?_))))))))
     ·refine Sr (fl 0 KU BK Y (P2 Y Y (Dx (Ct (Xq (Xr (Xr (Xq (Xr (OI c.Value (AX true (AG [1,0,2] Y (DL Y (D8 Y) (D8 Y) λw' hs=>AY (c1:=[(.string c.Value)]) (c2:=[(.bool true)]) hs ?_ ?_)))))))))))))
      ·show(c.Value:ByteArray)=EJ b t;exact(kS ‹_› ‹_› a ‹_› hi).1
      ·show(true:Bool)=HU b t;exact(kS ‹_› ‹_› a ‹_› hi).2
     ·refine Ck (Xb (Xt (Cr (ad (k+1) Y (Pe Y (λac w' hf hs=>⟨_,?_,k+1,?_,?_,Y,hf.wk Y,hs.pk [] Y Y⟩))))))
      ·omega
      ·omega
      ·refine AF hi ?_;intro y hy;obtain rfl:y=c:=Option.some.inj (hy.symm.trans a);simp_all
    ·refine Cx (Xx (Xx (Xe (Xt (Sr (P2 Y Y (Dx (Ct (OI (⟨#[]⟩) (AX false (AG [1,0] Y (DL Y (D8 Y) (D8 Y) λw' hs=>AY (c1:=[(.string ⟨#[]⟩)]) (c2:=[(.bool false)]) hs ?_ ?_))))))))))))
     ·show(⟨#[]⟩:ByteArray)=EJ b t;exact(X5 ‹_› (.inr (λi h=>hi i (by omega)))).1
     ·show(false:Bool)=HU b t;exact(X5 ‹_› (.inr (λi h=>hi i (by omega)))).2
theorem MK{w:World}{d:Value}{b:(List Pair)}{t:ByteArray}(c:Gd.rd w [d] b)(g:VP t):Cy 154 [d,(.string t)] w (O8 w (EJ b t:ByteArray) (HU b t:Bool)):=by
 have q:=rM c;unfold VP at g;refine enter 32 Tryz.func154 Y Y Y (Sr (P2 Y Y (Dx (Cq (Sr (p1 Y (qv P5 Y (λw' hs=>(FD ‹_›)) (Dx (Ci _ Y (λr=>?_) (λr=>?_))))))))))
 ·refine Sr (P3 Y Y Y (Dx (Ct (Xr (OI t (AX true (AG [1,0] Y (DL Y (D8 Y) (D8 Y) λw' hs=>AY (c1:=[(.string t)]) (c2:=[(.bool true)]) hs ?_ ?_))))))))
  ·show(t:ByteArray)=EJ b t;exact(kR ‹_›).1
  ·show(true:Bool)=HU b t;exact(kR ‹_›).2
 ·refine Sk (Cq (Sr (Pe Y (Cb (Cl (λm_ ac w'=>∃(k:Nat),(k<=b.length)/\(∀i,i<k->∀y,b[i]?=some y->¬(y.Var=t/\BM t=true))/\m_=b.length-k/\Fits ac 32 [(0,d),(1,(.string t)),(6,(nv k))]/\St w ([]) w') ?_ ?_)))))
  ·refine λac w' hf hs=>⟨_,0,?_,?_,Y,hf.wk Y,hs⟩
   ·omega
   ·intro i hi;omega
  ·rintro m_ ac w' ⟨k,hk,hi,rfl,hf,hs⟩;refine D.use ?_ hf hs;clear hf hs ac w';refine Cq (Sr (P2 Y Y (dl CU Y (AE c) (Pe Y (Cd Y (λm=>?_) (λm=>?_))))))
   ·refine Sk (Cq (Cb (Sr (P2 Y Y ?_))));obtain⟨e,a⟩:=sI b k;obtain⟨s,f,o⟩:=AC (n:=2) rfl c a;obtain⟨rfl⟩:=D1 o;refine q1 Y (AJ (l:=b) (j:=k) CU Y Y Y (λw' hs=>(rA hs c)) Y (lS a)) (q1 Y (B2 GJ Y Y) (q1 Y (lr BK Y Y f Y) (p1 Y (q1 Y (DO Y Y Y) (p1 Y (EY 23 Y Y (λp=>?_) (λp=>?_)))))))
    ·refine p1 Y (qv SD Y (λw' hs=>(GQ ‹_›)) (Pe Y (Ci _ Y (λu=>?_) (λu=>?_))))
     ·refine Sr (P2 Y Y (q1 Y (AJ (l:=b) (j:=k) CU Y Y Y (λw' hs=>(rA hs c)) Y (lS a)) (q1 Y (B2 KU Y Y) (q1 Y (lr BK Y Y f Y) (P2 Y Y (Dx (Ct (Xq (Xr (Xr (Xq (Xr (OI e.Value (AX true (AG [1,0] Y (DL Y (D8 Y) (D8 Y) λw' hs=>AY (c1:=[(.string e.Value)]) (c2:=[(.bool true)]) hs ?_ ?_))))))))))))))))
      ·show(e.Value:ByteArray)=EJ b t;exact(kS ‹_› ‹_› a ‹_› hi).1
      ·show(true:Bool)=HU b t;exact(kS ‹_› ‹_› a ‹_› hi).2
     ·refine Ck (Xb (Xt (AH [0,1,6] Y (Cr (p1 Y (ad (k+1) Y (Pe Y (λac w' hf hs=>⟨_,?_,k+1,?_,?_,Y,hf.wk Y,hs⟩))))))))
      ·omega
      ·omega
      ·refine AF hi ?_;intro y hy;obtain rfl:y=e:=Option.some.inj (hy.symm.trans a);simp_all
    ·refine n1 Y (n1 Y (Pe Y (G7 Y (Ck (Xb (Xt (AH [0,1,6] Y (Cr (p1 Y (ad (k+1) Y (Pe Y (λac w' hf hs=>⟨_,?_,k+1,?_,?_,Y,hf.wk Y,hs⟩))))))))))))
     ·omega
     ·omega
     ·refine AF hi ?_;intro y hy;obtain rfl:y=e:=Option.some.inj (hy.symm.trans a);simp_all
   ·refine Cx (Xx (Xx (Xe (Xt (Sr (P2 Y Y (Dx (Ct (OI (⟨#[]⟩) (AX false (AG [1,0] Y (DL Y (D8 Y) (D8 Y) λw' hs=>AY (c1:=[(.string ⟨#[]⟩)]) (c2:=[(.bool false)]) hs ?_ ?_))))))))))))
    ·show(⟨#[]⟩:ByteArray)=EJ b t;exact(X5 ‹_› (.inr (λi h=>hi i (by omega)))).1
    ·show(false:Bool)=HU b t;exact(X5 ‹_› (.inr (λi h=>hi i (by omega)))).2
set_option maxHeartbeats 4000000 in
theorem eQ{w:World}{e:Value}{b:(List Pair)}{v:ByteArray}{x:ByteArray}(a:Gd.rd w [e] b)(a0:b.length<=1048576):Cy 280 [e,(.string v),(.string x)] w (O8 w (Fq b v x:List Pair) (GY b v x:Bool)):=by
 have a1:=rM a;refine enter 76 Tryz.func280 Y Y Y (Sr (P2 Y Y (Dx (Cq (Sr (p1 Y (qv jC Y (λw' hs=>(IC (rA hs a))) (P2 Y Y (JQ 17 Y Y (λq=>?_) (λq=>?_))))))))))
 ·refine n1 Y (n1 Y (n1 Y (P2 Y Y (n1 Y (n1 Y (n1 Y (Pe Y (GF Y (Sr (P2 Y Y (Dx (Ct (Xr (CG (α:=Pair) (AX false (AG [1,0] Y (DL Y (D8 Y) (D8 Y) λw' hs=>AY (c1:=[(.slice none 0 0)]) (c2:=[(.bool false)]) hs ?_ ?_)))))))))))))))))
  ·show([]:List Pair)=Fq b v x;exact(JN (.inl ‹_›)).1
  ·show(false:Bool)=GY b v x;exact(JN (.inl ‹_›)).2
 ·refine p1 Y (qv aZ Y (λw' hs=>J9) (P3 Y Y Y (JQ 22 Y Y (λs=>?_) (λs=>?_))))
  ·refine n1 Y (n1 Y (n1 Y (Pe Y (GF Y (Sr (P2 Y Y (Dx (Ct (Xr (CG (α:=Pair) (AX false (AG [1,0] Y (DL Y (D8 Y) (D8 Y) λw' hs=>AY (c1:=[(.slice none 0 0)]) (c2:=[(.bool false)]) hs ?_ ?_)))))))))))))
   ·show([]:List Pair)=Fq b v x;exact(JN (.inr (.inl ‹_›))).1
   ·show(false:Bool)=GY b v x;exact(JN (.inr (.inl ‹_›))).2
  ·refine p1 Y (qv P4 Y (λw' hs=>FC) (P2 Y Y (Dx (CN Y (λt=>?_) (λt=>?_)))))
   ·refine Sr (P2 Y Y (Dx (Ct (Xr (CG (α:=Pair) (AX false (AG [1,0] Y (DL Y (D8 Y) (D8 Y) λw' hs=>AY (c1:=[(.slice none 0 0)]) (c2:=[(.bool false)]) hs ?_ ?_))))))))
    ·show([]:List Pair)=Fq b v x;exact(JN (.inr (.inr ‹_›))).1
    ·show(false:Bool)=GY b v x;exact(JN (.inr (.inr ‹_›))).2
   ·refine Sk (AH [0,1,2] Y (Cq (Sr (P2 Y Y (lM qG Y (λw' hs=>(MJ (rA hs a))) (v:=(.tuple #[(.string (EJ b v)),(.bool (HU b v))])) Y (P3 Y Y Y (P2 Y Y (Dx (Sr (Pe Y (Ci _ Y (λh7=>?_) (λh7=>?_))))))))))))
    ·refine Cq (Sr (P2 Y Y (q1 Y (E5 Y Y Y) (Dx (R8 Y (λu=>?_) (λu=>?_))))))
     ·refine Sr (P2 Y Y (Dx (Ct (Xr (Xr (CG (α:=Pair) (AX false (AG [1,0] Y (DL Y (D8 Y) (D8 Y) λw' hs=>AY (c1:=[(.slice none 0 0)]) (c2:=[(.bool false)]) hs ?_ ?_)))))))))
      ·show([]:List Pair)=Fq b v x;exact(kX ‹_› ‹_›).1
      ·show(false:Bool)=GY b v x;exact(kX ‹_› ‹_›).2
     ·refine Sk (Sr (p1 Y (ql qD Y (λw' hs=>(KJ (rA hs a) ‹_›)) λv9=>?_)));refine P2 Y Y (Dx (Ct (Xr (AX true (AG [1,0] Y (DL Y (D8 Y) (D8 Y) λw' hs=>AY (c1:=[v9]) (c2:=[(.bool true)]) hs ?_ ?_))))))
      ·show(b:List Pair)=Fq b v x;exact(kW ‹_› ‹_› ‹_› ‹_› ‹_›).1
      ·show(true:Bool)=GY b v x;exact(kW ‹_› ‹_› ‹_› ‹_› ‹_›).2
    ·refine Sk (Cq (Sr (p1 Y (dl CU Y (AE a) (Pe Y (Cd Y (λf=>?_) (λf=>?_)))))))
     ·refine Sr (P2 Y Y (Dx (Ct (Xr (CG (α:=Pair) (AX false (AG [1,0] Y (DL Y (D8 Y) (D8 Y) λw' hs=>AY (c1:=[(.slice none 0 0)]) (c2:=[(.bool false)]) hs ?_ ?_))))))))
      ·show([]:List Pair)=Fq b v x;exact(kY ‹_› (by omega)).1
      ·show(false:Bool)=GY b v x;exact(kY ‹_› (by omega)).2
     ·refine Sk (Sr (Pe Y (Sr (Pe Y (Cq (Sr (p1 Y (dl CU Y (AE a) (Pe Y (Cb (Cl (λm_ ac w'=>∃(k:Nat),∃(dn:Bool),∃(vl:Value),(k<=b.length)/\(dn=(DK (NW v) ⟨v,x⟩ b k).2)/\m_=b.length-k/\Fits ac 76 [(1,(.string v)),(2,(.string x)),(10,vl),(11,(.bool dn)),(42,e),(43,(nv b.length)),(44,(nv k))]/\St w ([ov [vl] ((DK (NW v) ⟨v,x⟩ b k).1:(List Pair))]) w') ?_ ?_)))))))))))
      ·refine CG (α:=Pair) (A3 0 Y (show([]:(List Pair))=(DK (NW v) ⟨v,x⟩ b 0).1 from by exact tP _ _ _) (λac w' hf hs=>⟨_,0,false,(.slice none 0 0),?_,?_,Y,hf.wk Y,hs⟩))
       ·omega
       ·rfl
      ·rintro m_ ac w' ⟨k,dn,vl,hk,hd,rfl,hf,hs⟩;refine D.use ?_ hf hs;clear hf hs ac w';have hcl:=U1 (NW v) ⟨v,x⟩ b k;refine Sr (Pe Y (Dh ([_]) Y (Cq (Cd Y (λg=>?_) (λg=>?_)))))
       ·refine Sk (Cq (Cb (Sr ?_)));obtain⟨d,c⟩:=sI b k;obtain⟨z,h,i⟩:=AC (n:=2) rfl a c;obtain⟨rfl⟩:=D1 i;refine q1 Y (AJ (l:=b) (j:=k) CU Y Y Y (λw' hs=>(rA hs a)) Y (lS c)) (q1 Y (EX M4 Y Y h) (aL GC Y λg15=>?_));refine li Y (AZ (vs:=[(.string d.Var),(.string d.Value)]) (cs':=[(.string d.Var),(.string d.Value)]) 0 qF Y Y Y Y Y Y (AB Y (AB Y BR)) (by simp) Y ?_);refine Dx (Dh ([bx g15 [(.string d.Var),(.string d.Value)],_]) Y (Cq (Sr (P3 Y Y Y (JQ 50 Y Y (λm=>?_) (λm=>?_))))))
        ·refine fl 0 GJ BK Y (p1 Y (q1 Y (oQ Y Y Y) (Pe Y (CN Y (λo=>?_) (λo=>?_)))))
         ·refine Sr (P3 Y Y Y (q1 Y (FY (vs:=[(0,(.string v)),(1,(.string x))]) (cs:=[(.string v),(.string x)]) Y (λ_=>by kernel_rfl) Y) (li Y (FF CU GC Y (by decide) (by decide) Y Y Y Y Y Y λg18=>?_))));refine H4 (r:=(⟨v,x⟩:Pair)) (AG [3,0,1,2] Y (li Y (GZ CU GC Y (by decide) Y Y Y Y Y Y (by omega) (by omega) λy=>?_)));refine Pe Y (Cr (Pe Y (AH [1,2,10,11,13,42,43,44] Y (Dh ([ov [y] (((DK (NW v) ⟨v,x⟩ b k).1)++ [(⟨v,x⟩:Pair)]:(List Pair)),_]) Y (Cr (p1 Y (q1 Y (C9 1 M4 Y Y Y) (li Y (FF CU GC Y (by decide) (by decide) Y Y Y Y Y Y λg20=>?_)))))))));refine H4 (r:=(d:Pair)) (AG [2,0,1,3] Y (li Y (GZ CU GC Y (by decide) Y Y Y Y Y Y (by simp;omega) (by simp;omega) λv21=>?_)));refine p1 Y (De (Xb (Xt (Dh ([ov [v21] ((((DK (NW v) ⟨v,x⟩ b k).1)++ [(⟨v,x⟩:Pair)])++ [(d:Pair)]:(List Pair)),_]) Y (Cr (ad (k+1) Y (Pe Y (A3 0 Y (show((((DK (NW v) ⟨v,x⟩ b k).1)++ [(⟨v,x⟩:Pair)])++ [(d:Pair)]:(List Pair))=(DK (NW v) ⟨v,x⟩ b (k+1)).1 from by exact dY c (hd.symm.trans ‹_›) (by exact VJ ‹_›)) (λac w' hf hs=>⟨_,?_,k+1,true,v21,?_,?_,Y,hf.wk Y,hs.pk [0] Y Y⟩)))))))))
          ·omega
          ·omega
          ·exact kV c (by exact VJ ‹_›)
         ·refine Sk (Cr (p1 Y (q1 Y (C9 0 M4 Y Y Y) (li Y (FF CU GC Y (by decide) (by decide) Y Y Y Y Y Y λg22=>?_)))));refine H4 (r:=(d:Pair)) (AG [3,0,1,2] Y (li Y (GZ CU GC Y (by decide) Y Y Y Y Y Y (by omega) (by omega) λv23=>?_)));refine p1 Y (De (Xb (Xt (AH [1,2,10,11,42,43,44] Y (AG [0] Y (Dh ([ov [v23] (((DK (NW v) ⟨v,x⟩ b k).1)++ [(d:Pair)]:(List Pair))]) Y (Cr (ad (k+1) Y (Pe Y (A3 0 Y (show(((DK (NW v) ⟨v,x⟩ b k).1)++ [(d:Pair)]:(List Pair))=(DK (NW v) ⟨v,x⟩ b (k+1)).1 from by exact kT c (by exact TI ‹_›)) (λac w' hf hs=>⟨_,?_,k+1,dn,v23,?_,?_,Y,hf.wk Y,hs⟩)))))))))))
          ·omega
          ·omega
          ·exact eA c hd ‹_› (by exact TI ‹_›)
        ·refine n1 Y (n1 Y (n1 Y (n1 Y (Pe Y (G7 Y (Sk (Cr (p1 Y (q1 Y (C9 0 M4 Y Y Y) (li Y (FF CU GC Y (by decide) (by decide) Y Y Y Y Y Y λg24=>?_)))))))))));refine H4 (r:=(d:Pair)) (AG [3,0,1,2] Y (li Y (GZ CU GC Y (by decide) Y Y Y Y Y Y (by omega) (by omega) λv25=>?_)));refine p1 Y (De (Xb (Xt (AH [1,2,10,11,42,43,44] Y (AG [0] Y (Dh ([ov [v25] (((DK (NW v) ⟨v,x⟩ b k).1)++ [(d:Pair)]:(List Pair))]) Y (Cr (ad (k+1) Y (Pe Y (A3 0 Y (show(((DK (NW v) ⟨v,x⟩ b k).1)++ [(d:Pair)]:(List Pair))=(DK (NW v) ⟨v,x⟩ b (k+1)).1 from by exact kU c (hd.symm.trans ‹_›)) (λac w' hf hs=>⟨_,?_,k+1,dn,v25,?_,?_,Y,hf.wk Y,hs⟩)))))))))))
         ·omega
         ·omega
         ·exact dZ c hd ‹_›
       ·refine Cx (Xx (Xx (Xe (Xt (Cq (Sr (P2 Y Y (Dx (CN Y (λp=>?_) (λp=>?_))))))))))
        ·refine Cr (P3 Y Y Y (q1 Y (FY (vs:=[(0,(.string v)),(1,(.string x))]) (cs:=[(.string v),(.string x)]) Y (λ_=>by kernel_rfl) Y) (li Y (FF CU GC Y (by decide) (by decide) Y Y Y Y Y Y λa2=>?_))));refine H4 (r:=(⟨v,x⟩:Pair)) (AG [2,0,1] Y (li Y (GZ CU GC Y (by decide) Y Y Y Y Y Y (by omega) (by omega) λv28=>?_)));refine Pe Y (Sr (P3 Y Y Y (Dx (Ct (AX true (AG [1,0] Y (DL Y (D8 Y) (D8 Y) λw' hs=>AY (c1:=[v28]) (c2:=[(.bool true)]) hs ?_ ?_)))))))
         ·show(((DK (NW v) ⟨v,x⟩ b k).1)++ [(⟨v,x⟩:Pair)]:List Pair)=Fq b v x;exact(tT (by omega) (by omega) (hd.symm.trans ‹_›)).trans (X6 ‹_› ‹_› ‹_› ‹_› (by omega)).1
         ·show(true:Bool)=GY b v x;exact(X6 ‹_› ‹_› ‹_› ‹_› (by omega)).2
        ·refine Sk (Sr (P3 Y Y Y (Dx (Ct (AX true (AG [1,0] Y (DL Y (D8 Y) (D8 Y) λw' hs=>AY (c1:=[vl]) (c2:=[(.bool true)]) hs ?_ ?_)))))))
         ·show((DK (NW v) ⟨v,x⟩ b k).1:List Pair)=Fq b v x;exact(tQ (by omega) (by omega) (hd.symm.trans ‹_›)).trans (X6 ‹_› ‹_› ‹_› ‹_› (by omega)).1
         ·show(true:Bool)=GY b v x;exact(X6 ‹_› ‹_› ‹_› ‹_› (by omega)).2
theorem hE{w:World}{e:Value}{b:(List Pair)}{v:ByteArray}{x:ByteArray}(c:Gd.rd w [e] b)(z:b.length<=1048576):Cy 345 [e,(.string v),(.string x)] w (HH w (Z8 b v x:List Pair)):=by
 have a0:=rM c;refine enter 50 Tryz.func345 Y Y Y (Sr (Pe Y (Sr (li Y (FL (α:=Pair) CU Y Y Y λv2=>?_)))));refine Pe Y (Dh ([ov [v2] ([]:(List Pair))]) Y (Sr (Pe Y (Cq (Sr (Pe Y (Cb (Cl (λm_ ac w'=>∃(k:Nat),∃(dn:Bool),∃(vl:Value),(k<=b.length)/\(dn=(DK (NW v) ⟨v,x⟩ b k).2)/\m_=b.length-k/\Fits ac 50 [(0,e),(1,(.string v)),(2,(.string x)),(7,vl),(8,(.bool dn)),(9,(nv k))]/\St w ([ov [vl] ((DK (NW v) ⟨v,x⟩ b k).1:(List Pair))]) w') ?_ ?_))))))))
 ·refine A3 0 Y (show([]:(List Pair))=(DK (NW v) ⟨v,x⟩ b 0).1 from by exact tP _ _ _) (λac w' hf hs=>⟨_,0,false,v2,?_,?_,Y,hf.wk Y,hs⟩)
  ·omega
  ·rfl
 ·rintro m_ ac w' ⟨k,dn,vl,hk,hd,rfl,hf,hs⟩;refine D.use ?_ hf hs;clear hf hs ac w';have hcl:=U1 (NW v) ⟨v,x⟩ b k;refine Cq (Sr (P2 Y Y (dl CU Y (AE c) (Pe Y (Dh ([_]) Y (Cd Y (λp=>?_) (λp=>?_)))))))
  ·refine Sk (Cq (Cb (Cq (Sr (P3 Y Y Y (JQ 19 Y Y (λq=>?_) (λq=>?_)))))))
   ·refine P2 Y Y ?_;obtain⟨d,a⟩:=sI b k;obtain⟨a1,f,s⟩:=AC (n:=2) rfl c a;obtain⟨rfl⟩:=D1 s;refine q1 Y (AJ (l:=b) (j:=k) CU Y Y Y (λw' hs=>(rA hs c)) Y (lS a)) (q1 Y (B2 GJ Y Y) (q1 Y (lr BK Y Y f Y) (p1 Y (q1 Y (oQ Y Y Y) (Pe Y (CN Y (λt=>?_) (λt=>?_)))))))
    ·refine Sr (P3 Y Y Y (q1 Y (FY (vs:=[(0,(.string v)),(1,(.string x))]) (cs:=[(.string v),(.string x)]) Y (λ_=>by kernel_rfl) Y) (li Y (FF CU GC Y (by decide) (by decide) Y Y Y Y Y Y λg9=>?_))));refine H4 (r:=(⟨v,x⟩:Pair)) (AG [2,0,1] Y (li Y (GZ CU GC Y (by decide) Y Y Y Y Y Y (by omega) (by omega) λu=>?_)));refine Pe Y (Cr (Pe Y (AH [0,1,2,7,8,9] Y (Dh ([ov [u] (((DK (NW v) ⟨v,x⟩ b k).1)++ [(⟨v,x⟩:Pair)]:(List Pair))]) Y (Cr (P3 Y Y Y (q1 Y (AJ (l:=b) (j:=k) CU Y Y Y (λw' hs=>(rA hs c)) Y (lS a)) (q1 Y (EX M4 Y Y f) (li Y (FF CU GC Y (by decide) (by decide) Y Y Y Y Y Y λg11=>?_))))))))));refine H4 (r:=(d:Pair)) (AG [2,0,1] Y (li Y (GZ CU GC Y (by decide) Y Y Y Y Y Y (by simp;omega) (by simp;omega) λv12=>?_)));refine p1 Y (De (Xb (Xt (Dh ([ov [v12] ((((DK (NW v) ⟨v,x⟩ b k).1)++ [(⟨v,x⟩:Pair)])++ [(d:Pair)]:(List Pair))]) Y (Cr (p1 Y (ad (k+1) Y (Pe Y (A3 0 Y (show((((DK (NW v) ⟨v,x⟩ b k).1)++ [(⟨v,x⟩:Pair)])++ [(d:Pair)]:(List Pair))=(DK (NW v) ⟨v,x⟩ b (k+1)).1 from by exact dY a (hd.symm.trans ‹_›) (by exact VJ ‹_›)) (λac w' hf hs=>⟨_,?_,k+1,true,v12,?_,?_,Y,hf.wk Y,hs⟩))))))))))
     ·omega
     ·omega
     ·exact kV a (by exact VJ ‹_›)
    ·refine Sk (AH [0,1,2,7,8,9] Y (Cr (P3 Y Y Y (q1 Y (AJ (l:=b) (j:=k) CU Y Y Y (λw' hs=>(rA hs c)) Y (lS a)) (q1 Y (EX M4 Y Y f) (li Y (FF CU GC Y (by decide) (by decide) Y Y Y Y Y Y λg13=>?_)))))));refine H4 (r:=(d:Pair)) (AG [2,0,1] Y (li Y (GZ CU GC Y (by decide) Y Y Y Y Y Y (by omega) (by omega) λg=>?_)));refine p1 Y (De (Xb (Xt (Dh ([ov [g] (((DK (NW v) ⟨v,x⟩ b k).1)++ [(d:Pair)]:(List Pair))]) Y (Cr (p1 Y (ad (k+1) Y (Pe Y (A3 0 Y (show(((DK (NW v) ⟨v,x⟩ b k).1)++ [(d:Pair)]:(List Pair))=(DK (NW v) ⟨v,x⟩ b (k+1)).1 from by exact kT a (by exact TI ‹_›)) (λac w' hf hs=>⟨_,?_,k+1,dn,g,?_,?_,Y,hf.wk Y,hs⟩))))))))))
     ·omega
     ·omega
     ·exact eA a hd ‹_› (by exact TI ‹_›)
   ·refine n1 Y (n1 Y (n1 Y (n1 Y (n1 Y (n1 Y (n1 Y (Pe Y (G7 Y (Sk (AH [0,1,2,7,8,9] Y (Cr (P3 Y Y Y ?_))))))))))));obtain⟨d,a⟩:=sI b k;obtain⟨y,h,i⟩:=AC (n:=2) rfl c a;obtain⟨rfl⟩:=D1 i;refine q1 Y (AJ (l:=b) (j:=k) CU Y Y Y (λw' hs=>(rA hs c)) Y (lS a)) (q1 Y (EX M4 Y Y h) (li Y (FF CU GC Y (by decide) (by decide) Y Y Y Y Y Y λg18=>?_)));refine H4 (r:=(d:Pair)) (AG [2,0,1] Y (li Y (GZ CU GC Y (by decide) Y Y Y Y Y Y (by omega) (by omega) λm=>?_)));refine p1 Y (De (Xb (Xt (Dh ([ov [m] (((DK (NW v) ⟨v,x⟩ b k).1)++ [(d:Pair)]:(List Pair))]) Y (Cr (p1 Y (ad (k+1) Y (Pe Y (A3 0 Y (show(((DK (NW v) ⟨v,x⟩ b k).1)++ [(d:Pair)]:(List Pair))=(DK (NW v) ⟨v,x⟩ b (k+1)).1 from by exact kU a (hd.symm.trans ‹_›)) (λac w' hf hs=>⟨_,?_,k+1,dn,m,?_,?_,Y,hf.wk Y,hs⟩))))))))))
    ·omega
    ·omega
    ·exact dZ a hd ‹_›
  ·refine Cx (Xx (Xx (Xe (Xt (Cq (Sr (P2 Y Y (Dx (CN Y (λo=>?_) (λo=>?_))))))))))
   ·refine Cr (P3 Y Y Y (q1 Y (FY (vs:=[(0,(.string v)),(1,(.string x))]) (cs:=[(.string v),(.string x)]) Y (λ_=>by kernel_rfl) Y) (li Y (FF CU GC Y (by decide) (by decide) Y Y Y Y Y Y λg21=>?_))));refine H4 (r:=(⟨v,x⟩:Pair)) (AG [2,0,1] Y (li Y (GZ CU GC Y (by decide) Y Y Y Y Y Y (by omega) (by omega) λv22=>?_)));refine Pe Y (Sr (P2 Y Y (Dx (Ct (FV Y Y λw' hs=>A7 (k:=0) hs Y ?_)))));show((DK (NW v) ⟨v,x⟩ b k).1)++ [(⟨v,x⟩:Pair)]=Z8 b v x;exact tT (by omega) (by omega) (hd.symm.trans ‹_›)
   ·refine Sk (Sr (P2 Y Y (Dx (Ct (FV Y Y λw' hs=>A7 (k:=0) hs Y ?_)))));show(DK (NW v) ⟨v,x⟩ b k).1=Z8 b v x;exact tQ (by omega) (by omega) (hd.symm.trans ‹_›)
theorem eR{w:World}{d:Value}{b:(List Pair)}{v:ByteArray}{x:ByteArray}(a:Gd.rd w [d] b)(o:b.length<=1048576)(p:LR KF b)(e:VP v)(j:VP x):Cy 330 [d,(.string v),(.string x)] w (O8 w (Fq b v x:List Pair) (GY b v x:Bool)):=by
 have q:=rM a;have f:=e;have g:=j;unfold VP at f g;refine enter 49 Tryz.func330 Y Y Y (Sr (P2 Y Y (Dx (Cq (Sr (p1 Y (qv jD Y (λw' hs=>(ID (rA hs a) p)) (P2 Y Y (JQ 13 Y Y (λk=>?_) (λk=>?_))))))))))
 ·refine n1 Y (n1 Y (n1 Y (P2 Y Y (n1 Y (n1 Y (n1 Y (Pe Y (GF Y (Sr (li Y (FL (α:=Pair) CU Y Y Y λv3=>?_)))))))))));refine P2 Y Y (Dx (Ct (Xr (AX false (AG [1,0] Y (DL Y (D8 Y) (D8 Y) λw' hs=>AY (c1:=[v3]) (c2:=[(.bool false)]) hs ?_ ?_))))))
  ·show([]:List Pair)=Fq b v x;exact(JN (.inl ‹_›)).1
  ·show(false:Bool)=GY b v x;exact(JN (.inl ‹_›)).2
 ·refine p1 Y (qv SD Y (λw' hs=>(GQ ‹_›)) (P3 Y Y Y (JQ 18 Y Y (λl=>?_) (λl=>?_))))
  ·refine n1 Y (n1 Y (n1 Y (Pe Y (GF Y (Sr (li Y (FL (α:=Pair) CU Y Y Y λv5=>?_)))))));refine P2 Y Y (Dx (Ct (Xr (AX false (AG [1,0] Y (DL Y (D8 Y) (D8 Y) λw' hs=>AY (c1:=[v5]) (c2:=[(.bool false)]) hs ?_ ?_))))))
   ·show([]:List Pair)=Fq b v x;exact(JN (.inr (.inl ‹_›))).1
   ·show(false:Bool)=GY b v x;exact(JN (.inr (.inl ‹_›))).2
  ·refine p1 Y (qv P5 Y (λw' hs=>(FD ‹_›)) (P2 Y Y (Dx (CN Y (λm=>?_) (λm=>?_)))))
   ·refine Sr (li Y (FL (α:=Pair) CU Y Y Y λr=>?_));refine P2 Y Y (Dx (Ct (Xr (AX false (AG [1,0] Y (DL Y (D8 Y) (D8 Y) λw' hs=>AY (c1:=[r]) (c2:=[(.bool false)]) hs ?_ ?_))))))
    ·show([]:List Pair)=Fq b v x;exact(JN (.inr (.inr ‹_›))).1
    ·show(false:Bool)=GY b v x;exact(JN (.inr (.inr ‹_›))).2
   ·refine Sk (AH [0,1,2] Y (Sr (P2 Y Y (lM qH Y (λw' hs=>(MK (rA hs a) e)) (v:=(.tuple #[(.string (EJ b v)),(.bool (HU b v))])) Y (P3 Y Y Y (P2 Y Y (Dx (Cq (Sr (P2 Y Y (gs 31 Y Y (λc=>?_) (λc=>?_))))))))))))
    ·refine P2 Y Y (q1 Y (DO Y Y Y) (Pe Y (Cd Y (λh=>?_) (λh=>?_))))
     ·refine Sr (p1 Y (ql jA Y (λw' hs=>(K6 (rA hs a) ‹_›)) λv12=>?_));refine P2 Y Y (Dx (Ct (Xr (AX true (AG [1,0] Y (DL Y (D8 Y) (D8 Y) λw' hs=>AY (c1:=[v12]) (c2:=[(.bool true)]) hs ?_ ?_))))))
      ·show(b:List Pair)=Fq b v x;exact(kW ‹_› ‹_› ‹_› ‹_› ‹_›).1
      ·show(true:Bool)=GY b v x;exact(kW ‹_› ‹_› ‹_› ‹_› ‹_›).2
     ·refine Sk (Cq (Sr (P2 Y Y (gkt 39 Y Y c (n1 Y (n1 Y (n1 Y (Pe Y (AH [0,1,2,43] Y (GF Y (Sr (li Y (FL (α:=Pair) CU Y Y Y λn=>?_)))))))))))));refine P2 Y Y (Dx (Ct (Xr (AX false (AG [1,0] Y (DL Y (D8 Y) (D8 Y) λw' hs=>AY (c1:=[n]) (c2:=[(.bool false)]) hs ?_ ?_))))))
      ·show([]:List Pair)=Fq b v x;exact(kX ‹_› ‹_›).1
      ·show(false:Bool)=GY b v x;exact(kX ‹_› ‹_›).2
    ·refine n1 Y (n1 Y (n1 Y (Pe Y (G7 Y (Sk (Cq (Sr (P2 Y Y (gkf 39 Y Y c (p1 Y (dl CU Y (AE a) (P2 Y Y (Dx (AH [0,1,2,43] Y (Ce Y (λi=>?_) (λi=>?_))))))))))))))))
     ·refine Sr (li Y (FL (α:=Pair) CU Y Y Y λv21=>?_));refine P2 Y Y (Dx (Ct (Xr (AX false (AG [1,0] Y (DL Y (D8 Y) (D8 Y) λw' hs=>AY (c1:=[v21]) (c2:=[(.bool false)]) hs ?_ ?_))))))
      ·show([]:List Pair)=Fq b v x;exact(kY ‹_› (by omega)).1
      ·show(false:Bool)=GY b v x;exact(kY ‹_› (by omega)).2
     ·refine Sk (Sr (P3 Y Y Y (ql A4P Y (λw' hs=>(hE (rA hs a) ‹_›)) λv22=>?_)));refine P2 Y Y (Dx (Ct (AX true (AG [1,0] Y (DL Y (D8 Y) (D8 Y) λw' hs=>AY (c1:=[v22]) (c2:=[(.bool true)]) hs ?_ ?_)))))
      ·show(Z8 b v x:List Pair)=Fq b v x;exact(X6 ‹_› ‹_› ‹_› ‹_› (by omega)).1
      ·show(true:Bool)=GY b v x;exact(X6 ‹_› ‹_› ‹_› ‹_› (by omega)).2
set_option maxHeartbeats 4000000 in
theorem N0{w:World}{m:List Value}{p:Pattern}{o:List Value}{f:Fact}{q:Value}{b:(List Pair)}(r:Gd.rd w m p)(s:Gd.rd w o f)(h:Gd.rd w [q] b)(af:b.length<=1048576):Cy 256 [(.agg m.toArray),(.agg o.toArray),q] w (O8 w (GH p f b:List Pair) (DC p f b:Bool)):=by
 obtain⟨u1,rfl,e⟩:=B8 r;have ai:=rM e;obtain⟨u4,rfl,d⟩:=AS s;have aj:=rM d;have ak:=rM h;refine enter 77 Tryz.func256 Y Y Y (Sr (bX Y λg8=>?_));refine bX Y λg9=>?_
 refine P2 Y Y (Dx (Dh ([bx g9 [(.string f.Rel),u4],bx g8 [(.string p.Rel),u1]]) Y (Cq (Sr (q1 Y (C9 1 HA Y Y Y) (qv bA Y (λw' hs=>(GU (rA hs r))) (P2 Y Y (JQ 16 Y Y (λt=>?_) (λt=>?_)))))))))
 ·refine n1 Y (n1 Y (n1 Y (P2 Y Y (n1 Y (n1 Y (n1 Y (P2 Y Y (n1 Y (n1 Y (n1 Y (n1 Y (n1 Y (P2 Y Y (n1 Y (n1 Y (n1 Y (n1 Y (n1 Y (n1 Y (n1 Y (Pe Y ?_)))))))))))))))))))));refine AH [2,3,4,41] Y (GF Y (Sr (P2 Y Y (Dx (Ct (Xr (CG (α:=Pair) (AX false (AG [1,0,2,3] Y (DL Y (D8 Y) (D8 Y) λw' hs=>AY (c1:=[(.slice none 0 0)]) (c2:=[(.bool false)]) hs ?_ ?_))))))))))
  ·show([]:List Pair)=GH p f b;exact(HW (FT (.inl ‹_›))).1
  ·show(false:Bool)=DC p f b;exact(HW (FT (.inl ‹_›))).2
 ·refine q1 Y (C9 0 C3 Y Y Y) (qv OP Y (λw' hs=>(EQ (rA hs s))) (P3 Y Y Y (JQ 21 Y Y (λu=>?_) (λu=>?_))))
  ·refine n1 Y (n1 Y (n1 Y (P2 Y Y (n1 Y (n1 Y (n1 Y (n1 Y (n1 Y (P2 Y Y (n1 Y (n1 Y (n1 Y (n1 Y (n1 Y (n1 Y (n1 Y (Pe Y (AH [2,3,4,41] Y (GF Y (Sr ?_))))))))))))))))))));refine P2 Y Y (Dx (Ct (Xr (CG (α:=Pair) (AX false (AG [1,0,2,3] Y (DL Y (D8 Y) (D8 Y) λw' hs=>AY (c1:=[(.slice none 0 0)]) (c2:=[(.bool false)]) hs ?_ ?_)))))))
   ·show([]:List Pair)=GH p f b;exact(HW (FT (.inr (.inl ‹_›)))).1
   ·show(false:Bool)=DC p f b;exact(HW (FT (.inr (.inl ‹_›)))).2
  ·refine p1 Y (qv jC Y (λw' hs=>(IC (rA hs h))) (P3 Y Y Y (JQ 26 Y Y (λv=>?_) (λv=>?_))))
   ·refine n1 Y (n1 Y (n1 Y (n1 Y (n1 Y (P2 Y Y (n1 Y (n1 Y (n1 Y (n1 Y (n1 Y (n1 Y (n1 Y (Pe Y (AH [2,3,4,41] Y (GF Y (Sr (P2 Y Y (Dx (Ct ?_)))))))))))))))))));refine Xr (CG (α:=Pair) (AX false (AG [1,0,2,3] Y (DL Y (D8 Y) (D8 Y) λw' hs=>AY (c1:=[(.slice none 0 0)]) (c2:=[(.bool false)]) hs ?_ ?_))))
    ·show([]:List Pair)=GH p f b;exact(HW (FT (.inr (.inr (.inl ‹_›))))).1
    ·show(false:Bool)=DC p f b;exact(HW (FT (.inr (.inr (.inl ‹_›))))).2
   ·refine fl 1 H6 BK Y (fl 0 EH BK Y (q1 Y (E5 Y Y Y) (P2 Y Y (A3C 33 Y Y (λx=>?_) (λx=>?_)))))
    ·refine n1 Y (n1 Y (n1 Y (n1 Y (n1 Y (n1 Y (n1 Y (Pe Y (AH [2,3,4,41] Y (GF Y (Sr (P2 Y Y (Dx (Ct (Xr (CG (α:=Pair) (AX false (AG [1,0,2,3] Y (DL Y (D8 Y) (D8 Y) λw' hs=>AY (c1:=[(.slice none 0 0)]) (c2:=[(.bool false)]) hs ?_ ?_))))))))))))))))))
     ·show([]:List Pair)=GH p f b;exact(HW (FT (.inr (.inr (.inr (.inl ‹_›)))))).1
     ·show(false:Bool)=DC p f b;exact(HW (FT (.inr (.inr (.inr (.inl ‹_›)))))).2
    ·refine fl 1 C4 B5 Y (dl AU Y (AE e) (fl 0 BU B5 Y (dl AU Y (AE d) (P2 Y Y (Dx (AH [2,3,4,41] Y (Cn Y (λy=>?_) (λy=>?_))))))))
     ·refine Sr (P2 Y Y (Dx (Ct (Xr (CG (α:=Pair) (AX false (AG [1,0,2,3] Y (DL Y (D8 Y) (D8 Y) λw' hs=>AY (c1:=[(.slice none 0 0)]) (c2:=[(.bool false)]) hs ?_ ?_))))))))
      ·show([]:List Pair)=GH p f b;exact(HW (FT (.inr (.inr (.inr (.inr (by omega))))))).1
      ·show(false:Bool)=DC p f b;exact(HW (FT (.inr (.inr (.inr (.inr (by omega))))))).2
     ·refine Sk (Sr (p1 Y (ql qD Y (λw' hs=>(KJ (rA hs h) ‹_›)) λz=>?_)));refine Pe Y (Dh ([ov [z] (b:(List Pair)),_,_]) Y (Cq (Sr (fl 2 C4 B5 Y (dl AU Y (AE e) (Pe Y (Cb (Cl (λm_ ac w'=>∃(k:Nat),∃(cur:List Pair),∃(vl:Value),(k<=p.Args.length)/\(U2 p f b=true)/\(LX p f b k=some cur)/\(cur.length<=1048576)/\m_=p.Args.length-k/\Fits ac 77 [(4,(pv g9)),(8,vl),(45,u1),(46,(nv p.Args.length)),(47,(nv k))]/\St w ([ov [vl] (cur:(List Pair)),bx g9 [(.string f.Rel),u4],bx g8 [(.string p.Rel),u1]]) w') ?_ ?_))))))))
      ·refine λac w' hf hs=>⟨_,0,b,z,?_,?_,?_,?_,Y,hf.wk Y,hs⟩
       ·omega
       ·exact tV ‹_› ‹_› ‹_› ‹_› (by omega)
       ·rfl
       ·exact af
      ·rintro m_ ac w' ⟨k,cur,vl,hk,hg,hm,hcl,rfl,hf,hs⟩;refine D.use ?_ hf hs;clear hf hs ac w';have hga:=eH hg;refine Sr (Pe Y (Dh ([_,_,_]) Y (Cq (Cd Y (λa0=>?_) (λa0=>?_)))))
       ·refine Sk (Cq (Cb (Sr (p1 Y ?_))));obtain⟨i,a⟩:=sI p.Args k;obtain⟨a1,a2,a3⟩:=AC (n:=1) rfl e a;obtain rfl:a1=[.string i]:=a3;refine q1 Y (AJ (l:=p.Args) (j:=k) AU Y Y Y (λw' hs=>(rA hs e)) Y (lS a)) (q1 Y (HI BK Y Y a2 Y) (P2 Y Y (Dx (Cq (Sr (p1 Y (qv P4 Y (λw' hs=>FC) (Dx (Ci _ Y (λag=>?_) (λag=>?_))))))))))
        ·refine Cq (Sr (p1 Y (fl 1 BU B5 Y (p1 Y ?_))));obtain⟨g,c⟩:=sI f.Args k;obtain⟨a4,a5,a6⟩:=AC (n:=1) rfl d c;obtain rfl:a4=[.string g]:=a6;refine q1 Y (AJ (l:=f.Args) (j:=k) AU Y Y Y (λw' hs=>(rA hs d)) Y (lS c)) (q1 Y (HI BK Y Y a5 Y) (q1 Y (E5 Y Y Y) (Dx (R8 Y (λa7=>?_) (λa7=>?_)))))
         ·refine Sr (P2 Y Y (Dx (Ct (Xr (Xr (Xq (Xr (Xr (Xq (Xr (CG (α:=Pair) (AX false (AG [1,0,2,3,4] Y (DL Y (D8 Y) (D8 Y) λw' hs=>AY (c1:=[(.slice none 0 0)]) (c2:=[(.bool false)]) hs ?_ ?_))))))))))))))
          ·show([]:List Pair)=GH p f b;exact(SN (lS a) (TC hm a c ‹_› ‹_›)).1
          ·show(false:Bool)=DC p f b;exact(SN (lS a) (TC hm a c ‹_› ‹_›)).2
         ·refine Sk (AH [4,8,45,46,47] Y (Cx (Xx (Xe (Xt (Cr (ad (k+1) Y (Pe Y (λac w' hf hs=>⟨_,?_,k+1,cur,vl,?_,?_,?_,?_,Y,hf.wk Y,hs⟩)))))))))
          ·omega
          ·omega
          ·exact hg
          ·exact tX hm a c ‹_› ‹_›
          ·exact hcl
        ·refine Sk (Sr (P2 Y Y (fl 1 BU B5 Y (p1 Y ?_))));obtain⟨g,c⟩:=sI f.Args k;obtain⟨a8,a9,aa⟩:=AC (n:=1) rfl d c;obtain rfl:a8=[.string g]:=aa;refine q1 Y (AJ (l:=f.Args) (j:=k) AU Y Y Y (λw' hs=>(rA hs d)) Y (lS c)) (q1 Y (HI BK Y Y a9 Y) (qc2 A4Q Y (λw' hs=>(eQ (rO (k:=0) hs Y) ‹_›)) λah ab=>?_));refine Dp (λw' hs=>CL (rO (k:=0) hs Y)) ?_;rintro⟨v30,rfl⟩;refine Dp (λw' hs=>show ab=[(.bool (GY cur i g))] from rO (k:=1) hs Y) ?_;rintro rfl;refine MS 69 (v':=(.tuple #[v30,(.bool (GY cur i g))])) Y Y Y (AG [0,2,3,4] Y (P3 Y Y Y (P2 Y Y (Dx (AH [4,11,12,45,46,47] Y (Dh ([ov [v30] (Fq cur i g:(List Pair)),_,_,_]) Y (Cq (Sr (P2 Y Y (Dx (CN Y (λae=>?_) (λae=>?_))))))))))))
         ·refine Sr (P2 Y Y (Dx (Ct (Xr (Xq (Xr (Xr (Xq (Xr (CG (α:=Pair) (AX false (AG [1,0,2,3,4,5] Y (DL Y (D8 Y) (D8 Y) λw' hs=>AY (c1:=[(.slice none 0 0)]) (c2:=[(.bool false)]) hs ?_ ?_)))))))))))))
          ·show([]:List Pair)=GH p f b;exact(SN (lS a) (TD hm a c ‹_› ‹_›)).1
          ·show(false:Bool)=DC p f b;exact(SN (lS a) (TD hm a c ‹_› ‹_›)).2
         ·refine Sk (Cr (P2 Y Y (De (Xb (Xt (Cr (ad (k+1) Y (Pe Y (A3 0 Y (show(Fq cur i g:(List Pair))=(Fq cur i g) from by rfl) (λac w' hf hs=>⟨_,?_,k+1,Fq cur i g,v30,?_,?_,?_,?_,Y,hf.wk Y,hs.pk [0,2,3] Y Y⟩))))))))))
          ·omega
          ·omega
          ·exact hg
          ·exact tY hm a c ‹_› ‹_›
          ·exact Nat.le_trans eE (by decide)
       ·refine Cx (Xx (Xx (Xe (Xt (Sr (P3 Y Y Y (Dx (Ct (AX true (AG [1,0,2,3] Y (DL Y (D8 Y) (D8 Y) λw' hs=>AY (c1:=[vl]) (c2:=[(.bool true)]) hs ?_ ?_)))))))))))
        ·show(cur:List Pair)=GH p f b;exact(kZ hg (by omega) hm).1
        ·show(true:Bool)=DC p f b;exact(kZ hg (by omega) hm).2
set_option maxHeartbeats 4000000 in
theorem N1{w:World}{s:List Value}{p:Pattern}{t:List Value}{f:Fact}{u:Value}{b:(List Pair)}(v:Gd.rd w s p)(x:Gd.rd w t f)(m:Gd.rd w [u] b)(ah:b.length<=1048576)(ho:LR KF b)(h:IP p)(o:P9 f):Cy 309 [(.agg s.toArray),(.agg t.toArray),u] w (O8 w (GH p f b:List Pair) (DC p f b:Bool)):=by
 obtain⟨u1,rfl,d⟩:=B8 v;have ao:=rM d;obtain⟨u4,rfl,e⟩:=AS x;have ap:=rM e;have aq:=rM m;refine enter 89 Tryz.func309 Y Y Y (Sr (bX Y λg8=>?_));refine bX Y λg9=>?_
 refine P2 Y Y (Dx (Dh ([bx g9 [(.string f.Rel),u4],bx g8 [(.string p.Rel),u1]]) Y (Cq (Sr (q1 Y (C9 1 HA Y Y Y) (qv bB Y (λw' hs=>(GV (rA hs v) h)) (P2 Y Y (JQ 15 Y Y (λy=>?_) (λy=>?_)))))))))
 ·refine n1 Y (n1 Y (n1 Y (P2 Y Y (n1 Y (n1 Y (n1 Y (P2 Y Y (n1 Y (n1 Y (n1 Y (n1 Y (n1 Y (P2 Y Y (n1 Y (n1 Y (n1 Y (n1 Y (n1 Y (n1 Y (n1 Y (Pe Y ?_)))))))))))))))))))));refine AH [2,3,4,40] Y (GF Y (Sr (li Y (FL (α:=Pair) CU Y Y Y λai=>?_))));refine P2 Y Y (Dx (Ct (Xr (AX false (AG [1,0,2,3] Y (DL Y (D8 Y) (D8 Y) λw' hs=>AY (c1:=[ai]) (c2:=[(.bool false)]) hs ?_ ?_))))))
  ·show([]:List Pair)=GH p f b;exact(HW (FT (.inl ‹_›))).1
  ·show(false:Bool)=DC p f b;exact(HW (FT (.inl ‹_›))).2
 ·refine q1 Y (C9 0 C3 Y Y Y) (qv OQ Y (λw' hs=>(ER (rA hs x) o)) (P3 Y Y Y (JQ 20 Y Y (λz=>?_) (λz=>?_))))
  ·refine n1 Y (n1 Y (n1 Y (P2 Y Y (n1 Y (n1 Y (n1 Y (n1 Y (n1 Y (P2 Y Y (n1 Y (n1 Y (n1 Y (n1 Y (n1 Y (n1 Y (n1 Y (Pe Y (AH [2,3,4,40] Y (GF Y (Sr ?_))))))))))))))))))));refine li Y (FL (α:=Pair) CU Y Y Y λaj=>?_);refine P2 Y Y (Dx (Ct (Xr (AX false (AG [1,0,2,3] Y (DL Y (D8 Y) (D8 Y) λw' hs=>AY (c1:=[aj]) (c2:=[(.bool false)]) hs ?_ ?_))))))
   ·show([]:List Pair)=GH p f b;exact(HW (FT (.inr (.inl ‹_›)))).1
   ·show(false:Bool)=DC p f b;exact(HW (FT (.inr (.inl ‹_›)))).2
  ·refine p1 Y (qv jD Y (λw' hs=>(ID (rA hs m) ho)) (P3 Y Y Y (JQ 25 Y Y (λa0=>?_) (λa0=>?_))))
   ·refine n1 Y (n1 Y (n1 Y (n1 Y (n1 Y (P2 Y Y (n1 Y (n1 Y (n1 Y (n1 Y (n1 Y (n1 Y (n1 Y (Pe Y (AH [2,3,4,40] Y (GF Y (Sr (li Y (FL (α:=Pair) CU Y Y Y λak=>?_))))))))))))))))));refine P2 Y Y (Dx (Ct (Xr (AX false (AG [1,0,2,3] Y (DL Y (D8 Y) (D8 Y) λw' hs=>AY (c1:=[ak]) (c2:=[(.bool false)]) hs ?_ ?_))))))
    ·show([]:List Pair)=GH p f b;exact(HW (FT (.inr (.inr (.inl ‹_›))))).1
    ·show(false:Bool)=DC p f b;exact(HW (FT (.inr (.inr (.inl ‹_›))))).2
   ·refine fl 1 H6 BK Y (fl 0 EH BK Y (q1 Y (E5 Y Y Y) (P2 Y Y (A3C 32 Y Y (λa1=>?_) (λa1=>?_)))))
    ·refine n1 Y (n1 Y (n1 Y (n1 Y (n1 Y (n1 Y (n1 Y (Pe Y (AH [2,3,4,40] Y (GF Y (Sr (li Y (FL (α:=Pair) CU Y Y Y λv17=>?_))))))))))));refine P2 Y Y (Dx (Ct (Xr (AX false (AG [1,0,2,3] Y (DL Y (D8 Y) (D8 Y) λw' hs=>AY (c1:=[v17]) (c2:=[(.bool false)]) hs ?_ ?_))))))
     ·show([]:List Pair)=GH p f b;exact(HW (FT (.inr (.inr (.inr (.inl ‹_›)))))).1
     ·show(false:Bool)=DC p f b;exact(HW (FT (.inr (.inr (.inr (.inl ‹_›)))))).2
    ·refine fl 1 C4 B5 Y (dl AU Y (AE d) (fl 0 BU B5 Y (dl AU Y (AE e) (P2 Y Y (Dx (AH [2,3,4,40] Y (Cn Y (λa2=>?_) (λa2=>?_))))))))
     ·refine Sr (li Y (FL (α:=Pair) CU Y Y Y λal=>?_));refine P2 Y Y (Dx (Ct (Xr (AX false (AG [1,0,2,3] Y (DL Y (D8 Y) (D8 Y) λw' hs=>AY (c1:=[al]) (c2:=[(.bool false)]) hs ?_ ?_))))))
      ·show([]:List Pair)=GH p f b;exact(HW (FT (.inr (.inr (.inr (.inr (by omega))))))).1
      ·show(false:Bool)=DC p f b;exact(HW (FT (.inr (.inr (.inr (.inr (by omega))))))).2
     ·refine Sk (Sr (p1 Y (ql jA Y (λw' hs=>(K6 (rA hs m) ‹_›)) λv20=>?_)));refine Pe Y (Dh ([ov [v20] (b:(List Pair)),_,_]) Y (Cq (Sr (Pe Y (Cb (Cl (λm_ ac w'=>∃(k:Nat),∃(cur:List Pair),∃(vl:Value),(k<=p.Args.length)/\(U2 p f b=true)/\(LX p f b k=some cur)/\(cur.length<=1048576)/\(LR KF cur)/\m_=p.Args.length-k/\Fits ac 89 [(3,(pv g8)),(4,(pv g9)),(8,vl),(9,(nv k))]/\St w ([ov [vl] (cur:(List Pair)),bx g9 [(.string f.Rel),u4],bx g8 [(.string p.Rel),u1]]) w') ?_ ?_))))))
      ·refine λac w' hf hs=>⟨_,0,b,v20,?_,?_,?_,?_,?_,Y,hf.wk Y,hs⟩
       ·omega
       ·exact tV ‹_› ‹_› ‹_› ‹_› (by omega)
       ·rfl
       ·exact ah
       ·exact ho
      ·rintro m_ ac w' ⟨k,cur,vl,hk,hg,hm,hcl,hoc,rfl,hf,hs⟩;refine D.use ?_ hf hs;clear hf hs ac w';have hga:=eH hg;refine Cq (Sr (p1 Y (fl 2 C4 B5 Y (dl AU Y (AE d) (Pe Y (Dh ([_,_,_]) Y (Cd Y (λa3=>?_) (λa3=>?_))))))))
       ·refine Sk (Cq (Cb (Cq (Sr (fl 2 C4 B5 Y (p1 Y ?_))))));obtain⟨r,a⟩:=sI p.Args k;obtain⟨a4,g,a5⟩:=AC (n:=1) rfl d a;obtain rfl:a4=[.string r]:=a5;refine q1 Y (AJ (l:=p.Args) (j:=k) AU Y Y Y (λw' hs=>(rA hs d)) Y (lS a)) (q1 Y (HI BK Y Y g Y) (qv P5 Y (λw' hs=>(FD (h.2 _ (List.mem_of_getElem? a)))) (Dx (Ci _ Y (λam=>?_) (λam=>?_)))))
        ·refine Cq (Cq (A0 mixed [] (by kernel_rfl) (Tk 0 Y Y (Db C4 Y Y (q:=1) Y) (Tk 1 Y Y (lb 2 B5 Y Y Y Y) (tR 2 Y Y (Tk 3 Y Y (AJ (l:=p.Args) (j:=k) AU Y Y Y (λw' hs=>(rA hs d)) Y (lS a)) (Tk 4 Y Y (HI BK Y Y g Y) (Tk 5 Y Y (Db BU Y Y (q:=1) Y) (Tk 6 Y Y (lb 1 B5 Y Y Y Y) (tR 7 Y Y ?_))))))))));obtain⟨i,c⟩:=sI f.Args k;obtain⟨a6,a7,a8⟩:=AC (n:=1) rfl e c;obtain rfl:a6=[.string i]:=a8;refine Tk 8 Y Y (AJ (l:=f.Args) (j:=k) AU Y Y Y (λw' hs=>(rA hs e)) Y (lS c)) (Tk 9 Y Y (HI BK Y Y a7 Y) (Tk 10 Y Y (E5 Y Y Y) (tE (Xt (AH [3,4,8,9,67] Y (R8 Y (λa9=>?_) (λa9=>?_)))))))
         ·refine Sr (li Y (FL (α:=Pair) CU Y Y Y λv30=>?_));refine P2 Y Y (Dx (Ct (Xr (Xr (Xq (Xr (Xr (Xq (Xr (AX false (AG [1,0,2,3,4] Y (DL Y (D8 Y) (D8 Y) λw' hs=>AY (c1:=[v30]) (c2:=[(.bool false)]) hs ?_ ?_))))))))))))
          ·show([]:List Pair)=GH p f b;exact(SN (lS a) (TC hm a c ‹_› ‹_›)).1
          ·show(false:Bool)=DC p f b;exact(SN (lS a) (TC hm a c ‹_› ‹_›)).2
         ·refine Sk (Cx (Xx (Xe (Xt (Cr (p1 Y (ad (k+1) Y (Pe Y (λac w' hf hs=>⟨_,?_,k+1,cur,vl,?_,?_,?_,?_,?_,Y,hf.wk Y,hs⟩)))))))))
          ·omega
          ·omega
          ·exact hg
          ·exact tX hm a c ‹_› ‹_›
          ·exact hcl
          ·exact hoc
        ·refine Sk (Cq (A0 mixed [11,12,16] (by kernel_rfl) (tR 0 Y Y (Tk 1 Y Y (Db C4 Y Y (q:=1) Y) (Tk 2 Y Y (lb 2 B5 Y Y Y Y) (tR 3 Y Y (Tk 4 Y Y (AJ (l:=p.Args) (j:=k) AU Y Y Y (λw' hs=>(rA hs d)) Y (lS a)) (Tk 5 Y Y (HI BK Y Y g Y) (Tk 6 Y Y (Db BU Y Y (q:=1) Y) (Tk 7 Y Y (lb 1 B5 Y Y Y Y) (tR 8 Y Y ?_)))))))))));obtain⟨i,c⟩:=sI f.Args k;obtain⟨aa,ab,ae⟩:=AC (n:=1) rfl e c;obtain rfl:aa=[.string i]:=ae;refine Tk 9 Y Y (AJ (l:=f.Args) (j:=k) AU Y Y Y (λw' hs=>(rA hs e)) Y (lS c)) (Tk 10 Y Y (HI BK Y Y ab Y) (ty 11 Y Y (cr2 A4R Y Y Y Y (λw' hs=>(eR (rO (k:=0) hs Y) ‹_› hoc (h.2 _ (List.mem_of_getElem? a)) (o.2 _ (List.mem_of_getElem? c)))) λan af=>?_)));refine Dp (λw' hs=>CL (rO (k:=0) hs Y)) ?_;rintro⟨v36,rfl⟩;refine Dp (λw' hs=>show af=[(.bool (GY cur r i))] from rO (k:=1) hs Y) ?_;rintro rfl;refine MS 81 (v':=(.tuple #[v36,(.bool (GY cur r i))])) Y Y Y (AG [0,2,3,4] Y (tZ Y (tW 12 Y Y Y (Tj 13 Y Y (λ_ hs=>hs.pk [1,2,3] Y Y) (rp Y) (Tj 14 Y Y (λ_ hs=>hs.pk [1,2,3] Y Y) (rp Y) (Tj 15 Y Y (λ_ hs=>hs.pk [1,2,3] Y Y) (rp Y) (tW 16 Y Y Y (tE (Xt (AH [3,4,9,10,11] Y (Dh ([ov [v36] (Fq cur r i:(List Pair)),_,_,_]) Y (Cq (Sr (P2 Y Y (Dx (CN Y (λag=>?_) (λag=>?_)))))))))))))))))
         ·refine Sr (li Y (FL (α:=Pair) CU Y Y Y λv38=>?_));refine P2 Y Y (Dx (Ct (Xr (Xq (Xr (Xr (Xq (Xr (AX false (AG [1,0,2,3,4,5] Y (DL Y (D8 Y) (D8 Y) λw' hs=>AY (c1:=[v38]) (c2:=[(.bool false)]) hs ?_ ?_)))))))))))
          ·show([]:List Pair)=GH p f b;exact(SN (lS a) (TD hm a c ‹_› ‹_›)).1
          ·show(false:Bool)=DC p f b;exact(SN (lS a) (TD hm a c ‹_› ‹_›)).2
         ·refine Sk (Cr (P2 Y Y (De (Xb (Xt (Cr (p1 Y (ad (k+1) Y (Pe Y (A3 0 Y (show(Fq cur r i:(List Pair))=(Fq cur r i) from by rfl) (λac w' hf hs=>⟨_,?_,k+1,Fq cur r i,v36,?_,?_,?_,?_,?_,Y,hf.wk Y,hs.pk [0,2,3] Y Y⟩)))))))))))
          ·omega
          ·omega
          ·exact hg
          ·exact tY hm a c ‹_› ‹_›
          ·exact Nat.le_trans eE (by decide)
          ·exact yQ hoc (h.2 _ (List.mem_of_getElem? a)) (o.2 _ (List.mem_of_getElem? c))
       ·refine Cx (Xx (Xx (Xe (Xt (Sr (P3 Y Y Y (Dx (Ct (AX true (AG [1,0,2,3] Y (DL Y (D8 Y) (D8 Y) λw' hs=>AY (c1:=[vl]) (c2:=[(.bool true)]) hs ?_ ?_)))))))))))
        ·show(cur:List Pair)=GH p f b;exact(kZ hg (by omega) hm).1
        ·show(true:Bool)=DC p f b;exact(kZ hg (by omega) hm).2
end Go.Sy.Mat1
