/-
  Contracts of functions of the program, walked (printed by a program of ours).
  Conditions: those that each theorem states.
-/
import Derived.Test.YtbnpgdcpbmaebaaGreatDoorFct
import Derived.Test.YtbnpgdcpbmaebaaGreatDoorCho2
import Derived.Test.YtbnpgdcpbmaebaaGreatDoorMat
set_option linter.unusedVariables false
set_option maxRecDepth 20000
namespace Go.Sy.Mat1
open Go Go.RowKit Go.Proofs Go.Sy
open Go.Sy.Bel1 Go.Sy.Ev1 Go.Sy.Ev3 Go.Sy.Fmt1 Go.Sy.Eng1 Go.Sy.Eng2 Go.Sy.Eng3 Go.Sy.Eng4 Go.Sy.Num1 Go.Sy.Num2 Go.Sy.Fal2 Go.Sy.Cho2
theorem IC{w:World}{d:Value}{b:(List Pair)}(a:Gd.rd w [d] b):Cy 44 [d] w (Val w (.bool (D7 b))):=by
 have a0:=rM a;refine enter 41 Tryz.func44 Y Y Y (Sr (Pe Y (Cq (Sr (p1 Y (dl C1P Y (AE a) (Pe Y (Cd Y (λs=>?_) (λs=>?_)))))))))
 ·refine Sr (Pe Y (Ct (Xr (Rb Y Y ?_))));exact A2b (by omega)
 ·refine Sk (Cq (Sr (p1 Y (dl C1P Y (AE a) (Pe Y (Cb (Cl (λm_ ac w'=>∃(k:Nat),(k<=b.length)/\(∀i,i<k->GB b i=true)/\m_=b.length-k/\Fits ac 41 [(0,d),(8,d),(9,(nv b.length)),(10,(nv k))]/\St w ([]) w') ?_ ?_)))))))
  ·refine λac w' hf hs=>⟨_,0,?_,?_,Y,hf.wk Y,hs⟩
   ·omega
   ·intro i hi;omega
  ·rintro m_ ac w' ⟨k,hk,hi,rfl,hf,hs⟩;refine D.use ?_ hf hs;clear hf hs ac w';refine Sr (Pe Y (Cq (Cd Y (λt=>?_) (λt=>?_))))
   ·refine Sk (Cq (Cb (Sr (p1 Y ?_))));obtain⟨f,c⟩:=sI b k;obtain⟨a1,u,v⟩:=AC (n:=2) rfl a c;obtain⟨rfl⟩:=D1 v;refine q1 Y (AJ (l:=b) (j:=k) C1P Y Y Y (λw' hs=>(rA hs a)) Y (lS c)) (q1 Y (EX B6J Y Y u) (aL B4s Y λg7=>?_));refine p1 Y (li Y (AZ (vs:=[(.string f.Var),(.string f.Value)]) (cs':=[(.string f.Var),(.string f.Value)]) 0 B8k Y Y Y Y Y Y (AB Y (AB Y BR)) (by simp) Y ?_));refine Dx (Dh ([bx g7 [(.string f.Var),(.string f.Value)]]) Y (Cq (A0 mixed [2,3,4,5,6,7,8,9,10,11,12,13,22,23,24] (by kernel_rfl) (Tk 0 Y Y (Db B5O Y Y (q:=0) Y) (Tk 1 Y Y (lb 0 BK Y Y Y Y) (ty 2 Y Y (cv A0I Y Y Y Y (λw' hs=>J9) ?_)))))));refine tZ Y (tW 3 Y Y Y (tW 4 Y Y Y (JQ 19 Y Y (λx=>?_) (λx=>?_))))
    ·refine tK 16 [5,6,7,8] Y (tW 9 Y Y Y (tW 10 Y Y Y (tK 1 [11,12,13,14,15,16,17,18,19,20,21,22,23] Y (tW 24 Y Y Y (tE (Xt (AH [0,8,9,10,39] Y (AG [] Y ?_))))))));refine GF Y (Sr (Pe Y (Ct (Xq (Xr (Xr (Xq (Xr (Rb Y Y ?_)))))))));exact RU (k:=k) (by omega) (X2 c ‹_›)
    ·refine ty 5 Y Y (sv Y Y (Db B6c Y Y (q:=1) Y) ?_);refine tZ Y (ty 6 Y Y (sv Y Y (lb 0 BK Y Y Y Y) ?_));refine tZ Y (ty 7 Y Y (cv A3V Y Y Y Y (λw' hs=>FC) ?_));refine tZ Y (tW 8 Y Y Y (tW 9 Y Y Y (tW 10 Y Y Y (JQ 25 Y Y (λy=>?_) (λy=>?_)))))
     ·refine tK 1 [11,12,13,14,15,16,17,18,19,20,21,22,23] Y (tW 24 Y Y Y (tE (Xt (AH [0,8,9,10,39] Y (AG [] Y (GF Y (Sr (Pe Y ?_))))))));refine Ct (Xq (Xr (Xr (Xq (Xr (Rb Y Y ?_))))));exact RU (k:=k) (by omega) (X3 c ‹_›)
     ·refine tW 11 Y Y Y (tW 12 Y Y Y (tW 13 Y Y Y (EY 28 Y Y (λg=>?_) (λg=>?_))))
      ·refine tK 9 [14,15] Y (Tk 16 Y Y (B3 Y Y Y (r:=((k-1:Nat):Int)) (by omega) (by omega)) ?_);obtain⟨p0,e⟩:=sI b (k-1);obtain⟨z,m,o⟩:=AC (n:=2) rfl a e;obtain⟨rfl⟩:=D1 o;refine Tk 17 Y Y (AJ (l:=b) (j:=(k-1)) C1P Y Y Y (λw' hs=>(rA hs a)) Y (lS e)) (Tk 18 Y Y (B2 B5O Y Y) (Tk 19 Y Y (lr BK Y Y m Y) (Tk 20 Y Y (Db B5O Y Y (q:=0) Y) (Tk 21 Y Y (lb 0 BK Y Y Y Y) (ty 22 Y Y (sv Y Y (oP Y Y Y) ?_))))));refine tZ Y (tW 23 Y Y Y (tW 24 Y Y Y (tE (Xt (AH [0,8,9,10,39] Y (AG [] Y (CN Y (λp=>?_) (λp=>?_))))))))
       ·refine Sr (Pe Y (Ct (Xq (Xr (Xr (Xq (Xr (Rb Y Y ?_))))))));exact RU (k:=k) (by omega) (X4 c e (by omega) ‹_›)
       ·refine Ck (Xb (Xt (Cr (ad (k+1) Y (Pe Y (λac w' hf hs=>⟨_,?_,k+1,?_,?_,Y,hf.wk Y,hs⟩))))))
        ·omega
        ·omega
        ·refine AF hi ?_;exact dX c e (by omega) ‹_› ‹_› ‹_›
      ·refine tK 2 [14,15,16,17,18,19,20,21,22] Y (tW 23 Y Y Y (tW 24 Y Y Y (tE (Xt (AH [0,8,9,10,39] Y (AG [] Y (G7 Y (Ck (Xb (Xt (Cr (ad (k+1) Y (Pe Y ?_)))))))))))));refine λac w' hf hs=>⟨_,?_,k+1,?_,?_,Y,hf.wk Y,hs⟩
       ·omega
       ·omega
       ·refine AF hi ?_;exact dW c ‹_› ‹_› (by omega)
   ·refine Cx (Xx (Xx (Xe (Xt (Sr (Pe Y (Ct (Rb Y Y ?_))))))));exact A5r (by omega) (λi h=>hi i (by omega))
theorem MJ{w:World}{e:Value}{b:(List Pair)}{t:ByteArray}(d:Gd.rd w [e] b):Cy 48 [e,(.string t)] w (O8 w (EJ b t:ByteArray) (HU b t:Bool)):=by
 have q:=rM d;refine enter 27 Tryz.func48 Y Y Y (Sr (P2 Y Y (Dx (Cq (Sr (p1 Y (qv A3V Y (λw' hs=>FC) (Dx (Ci _ Y (λr=>?_) (λr=>?_))))))))))
 ·refine Sr (P3 Y Y Y (Dx (Ct (Xr (OI t (AX true (AG [1,0] Y (DL Y (D8 Y) (D8 Y) λw' hs=>AY (c1:=[(.string t)]) (c2:=[(.bool true)]) hs ?_ ?_))))))))
  ·show(t:ByteArray)=EJ b t;exact(kR ‹_›).1
  ·show(true:Bool)=HU b t;exact(kR ‹_›).2
 ·refine Sk (Cq (Sr (p1 Y (qv A0I Y (λw' hs=>J9) (Pe Y (CN Y (λf=>?_) (λf=>?_)))))))
  ·refine Sr (P2 Y Y (Dx (Ct (Xr (OI (⟨#[]⟩) (AX false (AG [1,0] Y (DL Y (D8 Y) (D8 Y) λw' hs=>AY (c1:=[(.string ⟨#[]⟩)]) (c2:=[(.bool false)]) hs ?_ ?_))))))))
   ·show(⟨#[]⟩:ByteArray)=EJ b t;exact(X5 ‹_› (.inl ‹_›)).1
   ·show(false:Bool)=HU b t;exact(X5 ‹_› (.inl ‹_›)).2
  ·refine Sk (Cq (Sr (p1 Y (dl C1P Y (AE d) (Pe Y (Cb (Cl (λm_ ac w'=>∃(k:Nat),(k<=b.length)/\(∀i,i<k->∀y,b[i]?=some y->¬(y.Var=t/\BM t=true))/\m_=b.length-k/\Fits ac 27 [(1,(.string t)),(14,e),(15,(nv b.length)),(16,(nv k))]/\St w ([]) w') ?_ ?_)))))))
   ·refine λac w' hf hs=>⟨_,0,?_,?_,Y,hf.wk Y,hs⟩
    ·omega
    ·intro i hi;omega
   ·rintro m_ ac w' ⟨k,hk,hi,rfl,hf,hs⟩;refine D.use ?_ hf hs;clear hf hs ac w';refine Sr (Pe Y (Cq (Cd Y (λg=>?_) (λg=>?_))))
    ·refine Sk (Cq (Cb (Sr ?_)));obtain⟨c,a⟩:=sI b k;obtain⟨s,m,o⟩:=AC (n:=2) rfl d a;obtain⟨rfl⟩:=D1 o;refine q1 Y (AJ (l:=b) (j:=k) C1P Y Y Y (λw' hs=>(rA hs d)) Y (lS a)) (q1 Y (EX B6J Y Y m) (aL B4s Y λg8=>?_));refine li Y (AZ (vs:=[(.string c.Var),(.string c.Value)]) (cs':=[(.string c.Var),(.string c.Value)]) 0 B8k Y Y Y Y Y Y (AB Y (AB Y BR)) (by simp) Y ?_);refine Dx (Dh ([bx g8 [(.string c.Var),(.string c.Value)]]) Y (Sr (fl 0 B5O BK Y (p1 Y (q1 Y (DO Y Y Y) (Dx (Cd Y (λp=>?_) (λp=>?_))))))))
     ·refine Sr (fl 0 B6c BK Y (P2 Y Y (Dx (Ct (Xq (Xr (Xr (Xq (Xr (OI c.Value (AX true (AG [1,0,2] Y (DL Y (D8 Y) (D8 Y) λw' hs=>AY (c1:=[(.string c.Value)]) (c2:=[(.bool true)]) hs ?_ ?_)))))))))))))
      ·show(c.Value:ByteArray)=EJ b t;exact(kS ‹_› ‹_› a ‹_› hi).1
      ·show(true:Bool)=HU b t;exact(kS ‹_› ‹_› a ‹_› hi).2
     ·refine Ck (Xb (Xt (Cr (ad (k+1) Y (Pe Y (λac w' hf hs=>⟨_,?_,k+1,?_,?_,Y,hf.wk Y,hs.pk [] Y Y⟩))))))
      ·omega
      ·omega
      ·refine AF hi ?_;intro y hy;obtain rfl:y=c:=Option.some.inj (hy.symm.trans a);simp_all
    ·refine Cx (Xx (Xx (Xe (Xt (Sr (P2 Y Y (Dx (Ct (OI (⟨#[]⟩) (AX false (AG [1,0] Y (DL Y (D8 Y) (D8 Y) λw' hs=>AY (c1:=[(.string ⟨#[]⟩)]) (c2:=[(.bool false)]) hs ?_ ?_))))))))))))
     ·show(⟨#[]⟩:ByteArray)=EJ b t;exact(X5 ‹_› (.inr (λi h=>hi i (by omega)))).1
     ·show(false:Bool)=HU b t;exact(X5 ‹_› (.inr (λi h=>hi i (by omega)))).2
set_option maxHeartbeats 4000000 in
theorem eQ{w:World}{e:Value}{b:(List Pair)}{v:ByteArray}{x:ByteArray}(a:Gd.rd w [e] b)(a0:b.length<=1048576):Cy 186 [e,(.string v),(.string x)] w (O8 w (Fq b v x:List Pair) (GY b v x:Bool)):=by
 have a1:=rM a;refine enter 76 Tryz.func186 Y Y Y (Sr (P2 Y Y (Dx (Cq (Sr (p1 Y (qv A7D Y (λw' hs=>(IC (rA hs a))) (P2 Y Y (JQ 17 Y Y (λq=>?_) (λq=>?_))))))))))
 ·refine n1 Y (n1 Y (n1 Y (P2 Y Y (n1 Y (n1 Y (n1 Y (Pe Y (GF Y (Sr (P2 Y Y (Dx (Ct (Xr (CG (α:=Pair) (AX false (AG [1,0] Y (DL Y (D8 Y) (D8 Y) λw' hs=>AY (c1:=[(.slice none 0 0)]) (c2:=[(.bool false)]) hs ?_ ?_)))))))))))))))))
  ·show([]:List Pair)=Fq b v x;exact(JN (.inl ‹_›)).1
  ·show(false:Bool)=GY b v x;exact(JN (.inl ‹_›)).2
 ·refine p1 Y (qv A0I Y (λw' hs=>J9) (P3 Y Y Y (JQ 22 Y Y (λs=>?_) (λs=>?_))))
  ·refine n1 Y (n1 Y (n1 Y (Pe Y (GF Y (Sr (P2 Y Y (Dx (Ct (Xr (CG (α:=Pair) (AX false (AG [1,0] Y (DL Y (D8 Y) (D8 Y) λw' hs=>AY (c1:=[(.slice none 0 0)]) (c2:=[(.bool false)]) hs ?_ ?_)))))))))))))
   ·show([]:List Pair)=Fq b v x;exact(JN (.inr (.inl ‹_›))).1
   ·show(false:Bool)=GY b v x;exact(JN (.inr (.inl ‹_›))).2
  ·refine p1 Y (qv A3V Y (λw' hs=>FC) (P2 Y Y (Dx (CN Y (λt=>?_) (λt=>?_)))))
   ·refine Sr (P2 Y Y (Dx (Ct (Xr (CG (α:=Pair) (AX false (AG [1,0] Y (DL Y (D8 Y) (D8 Y) λw' hs=>AY (c1:=[(.slice none 0 0)]) (c2:=[(.bool false)]) hs ?_ ?_))))))))
    ·show([]:List Pair)=Fq b v x;exact(JN (.inr (.inr ‹_›))).1
    ·show(false:Bool)=GY b v x;exact(JN (.inr (.inr ‹_›))).2
   ·refine Sk (AH [0,1,2] Y (Cq (Sr (P2 Y Y (lM A6w Y (λw' hs=>(MJ (rA hs a))) (v:=(.tuple #[(.string (EJ b v)),(.bool (HU b v))])) Y (P3 Y Y Y (P2 Y Y (Dx (Sr (Pe Y (Ci _ Y (λh7=>?_) (λh7=>?_))))))))))))
    ·refine Cq (Sr (P2 Y Y (q1 Y (E5 Y Y Y) (Dx (R8 Y (λu=>?_) (λu=>?_))))))
     ·refine Sr (P2 Y Y (Dx (Ct (Xr (Xr (CG (α:=Pair) (AX false (AG [1,0] Y (DL Y (D8 Y) (D8 Y) λw' hs=>AY (c1:=[(.slice none 0 0)]) (c2:=[(.bool false)]) hs ?_ ?_)))))))))
      ·show([]:List Pair)=Fq b v x;exact(kX ‹_› ‹_›).1
      ·show(false:Bool)=GY b v x;exact(kX ‹_› ‹_›).2
     ·refine Sk (Sr (p1 Y (ql zN Y (λw' hs=>(KJ (rA hs a) ‹_›)) λv9=>?_)));refine P2 Y Y (Dx (Ct (Xr (AX true (AG [1,0] Y (DL Y (D8 Y) (D8 Y) λw' hs=>AY (c1:=[v9]) (c2:=[(.bool true)]) hs ?_ ?_))))))
      ·show(b:List Pair)=Fq b v x;exact(kW ‹_› ‹_› ‹_› ‹_› ‹_›).1
      ·show(true:Bool)=GY b v x;exact(kW ‹_› ‹_› ‹_› ‹_› ‹_›).2
    ·refine Sk (Cq (Sr (p1 Y (dl C1P Y (AE a) (Pe Y (Cd Y (λf=>?_) (λf=>?_)))))))
     ·refine Sr (P2 Y Y (Dx (Ct (Xr (CG (α:=Pair) (AX false (AG [1,0] Y (DL Y (D8 Y) (D8 Y) λw' hs=>AY (c1:=[(.slice none 0 0)]) (c2:=[(.bool false)]) hs ?_ ?_))))))))
      ·show([]:List Pair)=Fq b v x;exact(kY ‹_› (by omega)).1
      ·show(false:Bool)=GY b v x;exact(kY ‹_› (by omega)).2
     ·refine Sk (Sr (Pe Y (Sr (Pe Y (Cq (Sr (p1 Y (dl C1P Y (AE a) (Pe Y (Cb (Cl (λm_ ac w'=>∃(k:Nat),∃(dn:Bool),∃(vl:Value),(k<=b.length)/\(dn=(DK (NW v) ⟨v,x⟩ b k).2)/\m_=b.length-k/\Fits ac 76 [(1,(.string v)),(2,(.string x)),(10,vl),(11,(.bool dn)),(42,e),(43,(nv b.length)),(44,(nv k))]/\St w ([ov [vl] ((DK (NW v) ⟨v,x⟩ b k).1:(List Pair))]) w') ?_ ?_)))))))))))
      ·refine CG (α:=Pair) (A3 0 Y (show([]:(List Pair))=(DK (NW v) ⟨v,x⟩ b 0).1 from by exact tP _ _ _) (λac w' hf hs=>⟨_,0,false,(.slice none 0 0),?_,?_,Y,hf.wk Y,hs⟩))
       ·omega
       ·rfl
      ·rintro m_ ac w' ⟨k,dn,vl,hk,hd,rfl,hf,hs⟩;refine D.use ?_ hf hs;clear hf hs ac w';have hcl:=U1 (NW v) ⟨v,x⟩ b k;refine Sr (Pe Y (Dh ([_]) Y (Cq (Cd Y (λg=>?_) (λg=>?_)))))
       ·refine Sk (Cq (Cb (Sr ?_)));obtain⟨d,c⟩:=sI b k;obtain⟨z,h,i⟩:=AC (n:=2) rfl a c;obtain⟨rfl⟩:=D1 i;refine q1 Y (AJ (l:=b) (j:=k) C1P Y Y Y (λw' hs=>(rA hs a)) Y (lS c)) (q1 Y (EX B6J Y Y h) (aL B4s Y λg15=>?_));refine li Y (AZ (vs:=[(.string d.Var),(.string d.Value)]) (cs':=[(.string d.Var),(.string d.Value)]) 0 B8k Y Y Y Y Y Y (AB Y (AB Y BR)) (by simp) Y ?_);refine Dx (Dh ([bx g15 [(.string d.Var),(.string d.Value)],_]) Y (Cq (Sr (P3 Y Y Y (JQ 50 Y Y (λm=>?_) (λm=>?_))))))
        ·refine fl 0 B5O BK Y (p1 Y (q1 Y (oQ Y Y Y) (Pe Y (CN Y (λo=>?_) (λo=>?_)))))
         ·refine Sr (P3 Y Y Y (q1 Y (FY (vs:=[(0,(.string v)),(1,(.string x))]) (cs:=[(.string v),(.string x)]) Y (λ_=>by kernel_rfl) Y) (li Y (FF C1P B4s Y (by decide) (by decide) Y Y Y Y Y Y λg18=>?_))));refine H4 (r:=(⟨v,x⟩:Pair)) (AG [3,0,1,2] Y (li Y (GZ C1P B4s Y (by decide) Y Y Y Y Y Y (by omega) (by omega) λy=>?_)));refine Pe Y (Cr (Pe Y (AH [1,2,10,11,13,42,43,44] Y (Dh ([ov [y] (((DK (NW v) ⟨v,x⟩ b k).1)++ [(⟨v,x⟩:Pair)]:(List Pair)),_]) Y (Cr (p1 Y (q1 Y (C9 1 B6J Y Y Y) (li Y (FF C1P B4s Y (by decide) (by decide) Y Y Y Y Y Y λg20=>?_)))))))));refine H4 (r:=(d:Pair)) (AG [2,0,1,3] Y (li Y (GZ C1P B4s Y (by decide) Y Y Y Y Y Y (by simp;omega) (by simp;omega) λv21=>?_)));refine p1 Y (De (Xb (Xt (Dh ([ov [v21] ((((DK (NW v) ⟨v,x⟩ b k).1)++ [(⟨v,x⟩:Pair)])++ [(d:Pair)]:(List Pair)),_]) Y (Cr (ad (k+1) Y (Pe Y (A3 0 Y (show((((DK (NW v) ⟨v,x⟩ b k).1)++ [(⟨v,x⟩:Pair)])++ [(d:Pair)]:(List Pair))=(DK (NW v) ⟨v,x⟩ b (k+1)).1 from by exact dY c (hd.symm.trans ‹_›) (by exact VJ ‹_›)) (λac w' hf hs=>⟨_,?_,k+1,true,v21,?_,?_,Y,hf.wk Y,hs.pk [0] Y Y⟩)))))))))
          ·omega
          ·omega
          ·exact kV c (by exact VJ ‹_›)
         ·refine Sk (Cr (p1 Y (q1 Y (C9 0 B6J Y Y Y) (li Y (FF C1P B4s Y (by decide) (by decide) Y Y Y Y Y Y λg22=>?_)))));refine H4 (r:=(d:Pair)) (AG [3,0,1,2] Y (li Y (GZ C1P B4s Y (by decide) Y Y Y Y Y Y (by omega) (by omega) λv23=>?_)));refine p1 Y (De (Xb (Xt (AH [1,2,10,11,42,43,44] Y (AG [0] Y (Dh ([ov [v23] (((DK (NW v) ⟨v,x⟩ b k).1)++ [(d:Pair)]:(List Pair))]) Y (Cr (ad (k+1) Y (Pe Y (A3 0 Y (show(((DK (NW v) ⟨v,x⟩ b k).1)++ [(d:Pair)]:(List Pair))=(DK (NW v) ⟨v,x⟩ b (k+1)).1 from by exact kT c (by exact TI ‹_›)) (λac w' hf hs=>⟨_,?_,k+1,dn,v23,?_,?_,Y,hf.wk Y,hs⟩)))))))))))
          ·omega
          ·omega
          ·exact eA c hd ‹_› (by exact TI ‹_›)
        ·refine n1 Y (n1 Y (n1 Y (n1 Y (Pe Y (G7 Y (Sk (Cr (p1 Y (q1 Y (C9 0 B6J Y Y Y) (li Y (FF C1P B4s Y (by decide) (by decide) Y Y Y Y Y Y λg24=>?_)))))))))));refine H4 (r:=(d:Pair)) (AG [3,0,1,2] Y (li Y (GZ C1P B4s Y (by decide) Y Y Y Y Y Y (by omega) (by omega) λv25=>?_)));refine p1 Y (De (Xb (Xt (AH [1,2,10,11,42,43,44] Y (AG [0] Y (Dh ([ov [v25] (((DK (NW v) ⟨v,x⟩ b k).1)++ [(d:Pair)]:(List Pair))]) Y (Cr (ad (k+1) Y (Pe Y (A3 0 Y (show(((DK (NW v) ⟨v,x⟩ b k).1)++ [(d:Pair)]:(List Pair))=(DK (NW v) ⟨v,x⟩ b (k+1)).1 from by exact kU c (hd.symm.trans ‹_›)) (λac w' hf hs=>⟨_,?_,k+1,dn,v25,?_,?_,Y,hf.wk Y,hs⟩)))))))))))
         ·omega
         ·omega
         ·exact dZ c hd ‹_›
       ·refine Cx (Xx (Xx (Xe (Xt (Cq (Sr (P2 Y Y (Dx (CN Y (λp=>?_) (λp=>?_))))))))))
        ·refine Cr (P3 Y Y Y (q1 Y (FY (vs:=[(0,(.string v)),(1,(.string x))]) (cs:=[(.string v),(.string x)]) Y (λ_=>by kernel_rfl) Y) (li Y (FF C1P B4s Y (by decide) (by decide) Y Y Y Y Y Y λa2=>?_))));refine H4 (r:=(⟨v,x⟩:Pair)) (AG [2,0,1] Y (li Y (GZ C1P B4s Y (by decide) Y Y Y Y Y Y (by omega) (by omega) λv28=>?_)));refine Pe Y (Sr (P3 Y Y Y (Dx (Ct (AX true (AG [1,0] Y (DL Y (D8 Y) (D8 Y) λw' hs=>AY (c1:=[v28]) (c2:=[(.bool true)]) hs ?_ ?_)))))))
         ·show(((DK (NW v) ⟨v,x⟩ b k).1)++ [(⟨v,x⟩:Pair)]:List Pair)=Fq b v x;exact(tT (by omega) (by omega) (hd.symm.trans ‹_›)).trans (X6 ‹_› ‹_› ‹_› ‹_› (by omega)).1
         ·show(true:Bool)=GY b v x;exact(X6 ‹_› ‹_› ‹_› ‹_› (by omega)).2
        ·refine Sk (Sr (P3 Y Y Y (Dx (Ct (AX true (AG [1,0] Y (DL Y (D8 Y) (D8 Y) λw' hs=>AY (c1:=[vl]) (c2:=[(.bool true)]) hs ?_ ?_)))))))
         ·show((DK (NW v) ⟨v,x⟩ b k).1:List Pair)=Fq b v x;exact(tQ (by omega) (by omega) (hd.symm.trans ‹_›)).trans (X6 ‹_› ‹_› ‹_› ‹_› (by omega)).1
         ·show(true:Bool)=GY b v x;exact(X6 ‹_› ‹_› ‹_› ‹_› (by omega)).2
set_option maxHeartbeats 4000000 in
theorem N0{w:World}{m:List Value}{p:Pattern}{o:List Value}{f:Fact}{q:Value}{b:(List Pair)}(r:Gd.rd w m p)(s:Gd.rd w o f)(h:Gd.rd w [q] b)(af:b.length<=1048576):Cy 119 [(.agg m.toArray),(.agg o.toArray),q] w (O8 w (GH p f b:List Pair) (DC p f b:Bool)):=by
 obtain⟨u1,rfl,e⟩:=B8 r;have ai:=rM e;obtain⟨u4,rfl,d⟩:=AS s;have aj:=rM d;have ak:=rM h;refine enter 77 Tryz.func119 Y Y Y (Sr (bX Y λg8=>?_));refine bX Y λg9=>?_
 refine P2 Y Y (Dx (Dh ([bx g9 [(.string f.Rel),u4],bx g8 [(.string p.Rel),u1]]) Y (Cq (Sr (q1 Y (C9 1 B4a Y Y Y) (qv B3x Y (λw' hs=>(GU (rA hs r))) (P2 Y Y (JQ 16 Y Y (λt=>?_) (λt=>?_)))))))))
 ·refine n1 Y (n1 Y (n1 Y (P2 Y Y (n1 Y (n1 Y (n1 Y (P2 Y Y (n1 Y (n1 Y (n1 Y (n1 Y (n1 Y (P2 Y Y (n1 Y (n1 Y (n1 Y (n1 Y (n1 Y (n1 Y (n1 Y (Pe Y ?_)))))))))))))))))))));refine AH [2,3,4,41] Y (GF Y (Sr (P2 Y Y (Dx (Ct (Xr (CG (α:=Pair) (AX false (AG [1,0,2,3] Y (DL Y (D8 Y) (D8 Y) λw' hs=>AY (c1:=[(.slice none 0 0)]) (c2:=[(.bool false)]) hs ?_ ?_))))))))))
  ·show([]:List Pair)=GH p f b;exact(HW (FT (.inl ‹_›))).1
  ·show(false:Bool)=DC p f b;exact(HW (FT (.inl ‹_›))).2
 ·refine q1 Y (C9 0 B4Z Y Y Y) (qv A6U Y (λw' hs=>(EQ (rA hs s))) (P3 Y Y Y (JQ 21 Y Y (λu=>?_) (λu=>?_))))
  ·refine n1 Y (n1 Y (n1 Y (P2 Y Y (n1 Y (n1 Y (n1 Y (n1 Y (n1 Y (P2 Y Y (n1 Y (n1 Y (n1 Y (n1 Y (n1 Y (n1 Y (n1 Y (Pe Y (AH [2,3,4,41] Y (GF Y (Sr ?_))))))))))))))))))));refine P2 Y Y (Dx (Ct (Xr (CG (α:=Pair) (AX false (AG [1,0,2,3] Y (DL Y (D8 Y) (D8 Y) λw' hs=>AY (c1:=[(.slice none 0 0)]) (c2:=[(.bool false)]) hs ?_ ?_)))))))
   ·show([]:List Pair)=GH p f b;exact(HW (FT (.inr (.inl ‹_›)))).1
   ·show(false:Bool)=DC p f b;exact(HW (FT (.inr (.inl ‹_›)))).2
  ·refine p1 Y (qv A7D Y (λw' hs=>(IC (rA hs h))) (P3 Y Y Y (JQ 26 Y Y (λv=>?_) (λv=>?_))))
   ·refine n1 Y (n1 Y (n1 Y (n1 Y (n1 Y (P2 Y Y (n1 Y (n1 Y (n1 Y (n1 Y (n1 Y (n1 Y (n1 Y (Pe Y (AH [2,3,4,41] Y (GF Y (Sr (P2 Y Y (Dx (Ct ?_)))))))))))))))))));refine Xr (CG (α:=Pair) (AX false (AG [1,0,2,3] Y (DL Y (D8 Y) (D8 Y) λw' hs=>AY (c1:=[(.slice none 0 0)]) (c2:=[(.bool false)]) hs ?_ ?_))))
    ·show([]:List Pair)=GH p f b;exact(HW (FT (.inr (.inr (.inl ‹_›))))).1
    ·show(false:Bool)=DC p f b;exact(HW (FT (.inr (.inr (.inl ‹_›))))).2
   ·refine fl 1 B5Y BK Y (fl 0 B5C BK Y (q1 Y (E5 Y Y Y) (P2 Y Y (A3C 33 Y Y (λx=>?_) (λx=>?_)))))
    ·refine n1 Y (n1 Y (n1 Y (n1 Y (n1 Y (n1 Y (n1 Y (Pe Y (AH [2,3,4,41] Y (GF Y (Sr (P2 Y Y (Dx (Ct (Xr (CG (α:=Pair) (AX false (AG [1,0,2,3] Y (DL Y (D8 Y) (D8 Y) λw' hs=>AY (c1:=[(.slice none 0 0)]) (c2:=[(.bool false)]) hs ?_ ?_))))))))))))))))))
     ·show([]:List Pair)=GH p f b;exact(HW (FT (.inr (.inr (.inr (.inl ‹_›)))))).1
     ·show(false:Bool)=DC p f b;exact(HW (FT (.inr (.inr (.inr (.inl ‹_›)))))).2
    ·refine fl 1 C1H C1G Y (dl C1D Y (AE e) (fl 0 C1F C1G Y (dl C1D Y (AE d) (P2 Y Y (Dx (AH [2,3,4,41] Y (Cn Y (λy=>?_) (λy=>?_))))))))
     ·refine Sr (P2 Y Y (Dx (Ct (Xr (CG (α:=Pair) (AX false (AG [1,0,2,3] Y (DL Y (D8 Y) (D8 Y) λw' hs=>AY (c1:=[(.slice none 0 0)]) (c2:=[(.bool false)]) hs ?_ ?_))))))))
      ·show([]:List Pair)=GH p f b;exact(HW (FT (.inr (.inr (.inr (.inr (by omega))))))).1
      ·show(false:Bool)=DC p f b;exact(HW (FT (.inr (.inr (.inr (.inr (by omega))))))).2
     ·refine Sk (Sr (p1 Y (ql zN Y (λw' hs=>(KJ (rA hs h) ‹_›)) λz=>?_)));refine Pe Y (Dh ([ov [z] (b:(List Pair)),_,_]) Y (Cq (Sr (fl 2 C1H C1G Y (dl C1D Y (AE e) (Pe Y (Cb (Cl (λm_ ac w'=>∃(k:Nat),∃(cur:List Pair),∃(vl:Value),(k<=p.Args.length)/\(U2 p f b=true)/\(LX p f b k=some cur)/\(cur.length<=1048576)/\m_=p.Args.length-k/\Fits ac 77 [(4,(pv g9)),(8,vl),(45,u1),(46,(nv p.Args.length)),(47,(nv k))]/\St w ([ov [vl] (cur:(List Pair)),bx g9 [(.string f.Rel),u4],bx g8 [(.string p.Rel),u1]]) w') ?_ ?_))))))))
      ·refine λac w' hf hs=>⟨_,0,b,z,?_,?_,?_,?_,Y,hf.wk Y,hs⟩
       ·omega
       ·exact tV ‹_› ‹_› ‹_› ‹_› (by omega)
       ·rfl
       ·exact af
      ·rintro m_ ac w' ⟨k,cur,vl,hk,hg,hm,hcl,rfl,hf,hs⟩;refine D.use ?_ hf hs;clear hf hs ac w';have hga:=eH hg;refine Sr (Pe Y (Dh ([_,_,_]) Y (Cq (Cd Y (λa0=>?_) (λa0=>?_)))))
       ·refine Sk (Cq (Cb (Sr (p1 Y ?_))));obtain⟨i,a⟩:=sI p.Args k;obtain⟨a1,a2,a3⟩:=AC (n:=1) rfl e a;obtain rfl:a1=[.string i]:=a3;refine q1 Y (AJ (l:=p.Args) (j:=k) C1D Y Y Y (λw' hs=>(rA hs e)) Y (lS a)) (q1 Y (HI BK Y Y a2 Y) (P2 Y Y (Dx (Cq (Sr (p1 Y (qv A3V Y (λw' hs=>FC) (Dx (Ci _ Y (λag=>?_) (λag=>?_))))))))))
        ·refine Cq (Sr (p1 Y (fl 1 C1F C1G Y (p1 Y ?_))));obtain⟨g,c⟩:=sI f.Args k;obtain⟨a4,a5,a6⟩:=AC (n:=1) rfl d c;obtain rfl:a4=[.string g]:=a6;refine q1 Y (AJ (l:=f.Args) (j:=k) C1D Y Y Y (λw' hs=>(rA hs d)) Y (lS c)) (q1 Y (HI BK Y Y a5 Y) (q1 Y (E5 Y Y Y) (Dx (R8 Y (λa7=>?_) (λa7=>?_)))))
         ·refine Sr (P2 Y Y (Dx (Ct (Xr (Xr (Xq (Xr (Xr (Xq (Xr (CG (α:=Pair) (AX false (AG [1,0,2,3,4] Y (DL Y (D8 Y) (D8 Y) λw' hs=>AY (c1:=[(.slice none 0 0)]) (c2:=[(.bool false)]) hs ?_ ?_))))))))))))))
          ·show([]:List Pair)=GH p f b;exact(SN (lS a) (TC hm a c ‹_› ‹_›)).1
          ·show(false:Bool)=DC p f b;exact(SN (lS a) (TC hm a c ‹_› ‹_›)).2
         ·refine Sk (AH [4,8,45,46,47] Y (Cx (Xx (Xe (Xt (Cr (ad (k+1) Y (Pe Y (λac w' hf hs=>⟨_,?_,k+1,cur,vl,?_,?_,?_,?_,Y,hf.wk Y,hs⟩)))))))))
          ·omega
          ·omega
          ·exact hg
          ·exact tX hm a c ‹_› ‹_›
          ·exact hcl
        ·refine Sk (Sr (P2 Y Y (fl 1 C1F C1G Y (p1 Y ?_))));obtain⟨g,c⟩:=sI f.Args k;obtain⟨a8,a9,aa⟩:=AC (n:=1) rfl d c;obtain rfl:a8=[.string g]:=aa;refine q1 Y (AJ (l:=f.Args) (j:=k) C1D Y Y Y (λw' hs=>(rA hs d)) Y (lS c)) (q1 Y (HI BK Y Y a9 Y) (qc2 A3H Y (λw' hs=>(eQ (rO (k:=0) hs Y) ‹_›)) λah ab=>?_));refine Dp (λw' hs=>CL (rO (k:=0) hs Y)) ?_;rintro⟨v30,rfl⟩;refine Dp (λw' hs=>show ab=[(.bool (GY cur i g))] from rO (k:=1) hs Y) ?_;rintro rfl;refine MS 69 (v':=(.tuple #[v30,(.bool (GY cur i g))])) Y Y Y (AG [0,2,3,4] Y (P3 Y Y Y (P2 Y Y (Dx (AH [4,11,12,45,46,47] Y (Dh ([ov [v30] (Fq cur i g:(List Pair)),_,_,_]) Y (Cq (Sr (P2 Y Y (Dx (CN Y (λae=>?_) (λae=>?_))))))))))))
         ·refine Sr (P2 Y Y (Dx (Ct (Xr (Xq (Xr (Xr (Xq (Xr (CG (α:=Pair) (AX false (AG [1,0,2,3,4,5] Y (DL Y (D8 Y) (D8 Y) λw' hs=>AY (c1:=[(.slice none 0 0)]) (c2:=[(.bool false)]) hs ?_ ?_)))))))))))))
          ·show([]:List Pair)=GH p f b;exact(SN (lS a) (TD hm a c ‹_› ‹_›)).1
          ·show(false:Bool)=DC p f b;exact(SN (lS a) (TD hm a c ‹_› ‹_›)).2
         ·refine Sk (Cr (P2 Y Y (De (Xb (Xt (Cr (ad (k+1) Y (Pe Y (A3 0 Y (show(Fq cur i g:(List Pair))=(Fq cur i g) from by rfl) (λac w' hf hs=>⟨_,?_,k+1,Fq cur i g,v30,?_,?_,?_,?_,Y,hf.wk Y,hs.pk [0,2,3] Y Y⟩))))))))))
          ·omega
          ·omega
          ·exact hg
          ·exact tY hm a c ‹_› ‹_›
          ·exact Nat.le_trans eE (by decide)
       ·refine Cx (Xx (Xx (Xe (Xt (Sr (P3 Y Y Y (Dx (Ct (AX true (AG [1,0,2,3] Y (DL Y (D8 Y) (D8 Y) λw' hs=>AY (c1:=[vl]) (c2:=[(.bool true)]) hs ?_ ?_)))))))))))
        ·show(cur:List Pair)=GH p f b;exact(kZ hg (by omega) hm).1
        ·show(true:Bool)=DC p f b;exact(kZ hg (by omega) hm).2
end Go.Sy.Mat1
