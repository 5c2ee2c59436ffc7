/-
  Contracts of functions of the program, walked (printed by a program of ours).
  Conditions: those that each theorem states.
-/
import Derived.Test.YtmjmglkogcomaaaGreatDoorFct
import Derived.Test.YtmjmglkogcomaaaGreatDoorEv
section
set_option linter.unusedVariables false
set_option maxRecDepth 20000
namespace Go.Sy.Ev1
open Go Go.RowKit Go.Proofs Go.Sy
open Go.Sy.Bel1
theorem FC{w:World}{s:ByteArray}:Cy 75 [(.string s)] w (Val w (.bool (BA s))):=by
 refine enter 40 Tryz.func75 Y Y Y<|Sr<|Pe Y<|Cq<|Sr<|p1 Y<|q1 Y (FZ F5 Y Y)<|P2 Y Y<|EY 7 Y Y (λe=>?_) λe=>?_
 ·refine PE 4 Y<|GF Y<|Sr<|Pe Y<|Ct<|Xr<|Rb Y Y ?_;exact S7 (by omega)
 ·refine p1 Y<|q1 Y (FZ F5 Y Y)<|PE 2 Y<|Cd Y (λf=>?_) λf=>?_
  ·refine Sr<|Pe Y<|Ct<|Xr<|Rb Y Y ?_;exact S7 (by omega)
  ·refine Sk<|Cq<|Sr<|Pe Y<|Cb<|Cl (λr c w'=>∃(k:Nat),(k<=s.size)/\(∀i,i<k->M8 (sB s i)=true)/\r=s.size-k/\Fits c 40 [(0,.string s),(3,nv k)]/\St w ([]) w') ?_ ?_
   ·refine λc w' a b=>⟨_,0,?_,?_,Y,a.wk Y,b⟩
    ·omega
    ·intro i d;omega
   ·rintro r c w' ⟨k,t,d,rfl,a,b⟩;refine D.use ?_ a b;clear a b c w';refine Cq<|Sr<|P2 Y Y<|q1 Y (FZ F5 Y Y)<|Pe Y<|Cd Y (λg=>?_) λg=>?_
    ·refine Sk<|Cq<|Cb<|Sr<|P2 Y Y<|q1 Y (HL (j:=k) F5 Y Y Y Y (by omega))<|P2 Y Y<|EY 22 Y Y (λl=>?_) λl=>?_
     ·refine n1 Y<|n1 Y<|n1 Y<|n1 Y<|P3 Y Y Y<|p1 Y<|q1 Y (HL (j:=k) F5 Y Y Y Y (by omega))<|P2 Y Y<|EY 33 Y Y (λm=>?_) λm=>?_
      ·refine PE 6 Y<|AH [0,3,39] Y<|GF Y<|Sr<|Pe Y<|Ct<|Xq<|Xr<|Xr<|Xq<|Xr<|Rb Y Y ?_;exact S8 (k:=k) (by omega) (fQ (by omega))
      ·refine P2 Y Y<|q1 Y (HL (j:=k) F5 Y Y Y Y (by omega))<|PE 3 Y<|AH [0,3,39] Y<|Cd Y (λn=>?_) λn=>?_
       ·refine Sr<|Pe Y<|Ct<|Xq<|Xr<|Xr<|Xq<|Xr<|Rb Y Y ?_;exact S8 (k:=k) (by omega) (fQ (by omega))
       ·refine Ck<|Xb<|Xt<|Cr<|p1 Y<|ad (k+1) Y<|Pe Y λc w' a b=>⟨_,?_,k+1,?_,?_,Y,a.wk Y,b⟩
        ·omega
        ·omega
        ·exact AF d (fP (by omega))
     ·refine P2 Y Y<|q1 Y (HL (j:=k) F5 Y Y Y Y (by omega))<|P3 Y Y Y<|EY 28 Y Y (λo=>?_) λo=>?_
      ·refine P2 Y Y<|q1 Y (HL (j:=k) F5 Y Y Y Y (by omega))<|P2 Y Y<|EY 33 Y Y (λp=>?_) λp=>?_
       ·refine PE 6 Y<|AH [0,3,39] Y<|GF Y<|Sr<|Pe Y<|Ct<|Xq<|Xr<|Xr<|Xq<|Xr<|Rb Y Y ?_;exact S7 (by omega)
       ·refine P2 Y Y<|q1 Y (HL (j:=k) F5 Y Y Y Y (by omega))<|PE 3 Y<|AH [0,3,39] Y<|Cd Y (λq=>?_) λq=>?_
        ·refine Sr<|Pe Y<|Ct<|Xq<|Xr<|Xr<|Xq<|Xr<|Rb Y Y ?_;exact S8 (k:=k) (by omega) (fQ (by omega))
        ·refine Ck<|Xb<|Xt<|Cr<|p1 Y<|ad (k+1) Y<|Pe Y λc w' a b=>⟨_,?_,k+1,?_,?_,Y,a.wk Y,b⟩
         ·omega
         ·omega
         ·exact AF d (fP (by omega))
      ·refine PE 11 Y<|AH [0,3,39] Y<|G7 Y<|Ck<|Xb<|Xt<|Cr<|p1 Y<|ad (k+1) Y<|Pe Y ?_;refine λc w' a b=>⟨_,?_,k+1,?_,?_,Y,a.wk Y,b⟩
       ·omega
       ·omega
       ·exact AF d (fP (by omega))
    ·refine Cx<|Xx<|Xx<|Xe<|Xt<|Sr<|Pe Y<|Ct<|Rb Y Y ?_;exact qQ (by omega) (λi h=>d i (by omega))
theorem FD{w:World}{s:ByteArray}(m:s.size<=9223372036854775807):Cy 95 [(.string s)] w (Val w (.bool (BA s))):=by
 refine enter 27 Tryz.func95 Y Y Y<|Sr<|Pe Y<|Cq<|Sr<|Pe Y<|Cb<|Cl (λl c w'=>∃(k:Nat),(k<=s.size)/\(∀i,i<k->M8 (sB s i)=true)/\l=s.size-k/\Fits c 27 [(0,.string s),(3,nv k)]/\St w ([]) w') ?_ ?_
 ·refine λc w' b a=>⟨_,0,?_,?_,Y,b.wk Y,a⟩
  ·omega
  ·intro i d;omega
 ·rintro l c w' ⟨k,n,d,rfl,b,a⟩;refine D.use ?_ b a;clear b a c w';refine Cq<|Sr<|P2 Y Y<|q1 Y (FZ F5 Y Y)<|Pe Y<|Cd Y (λe=>?_) λe=>?_
  ·refine Sk<|Cq<|Cb<|Sr<|P2 Y Y<|q1 Y (HL (j:=k) F5 Y Y Y Y (by omega))<|q1 Y (oN LO ⟨_,VL⟩ Y Y)<|qv B3Y Y (λw' a=>E7)<|P2 Y Y<|JQ 16 Y Y (λf=>?_) λf=>?_
   ·refine P2 Y Y<|q1 Y (HL (j:=k) F5 Y Y Y Y (by omega))<|q1 Y (oN LO ⟨_,VL⟩ Y Y)<|qv B3Y Y (λw' a=>E7)<|PE 2 Y<|AH [0,3,23] Y<|CN Y (λg=>?_) λg=>?_
    ·refine Sr<|Pe Y<|Ct<|Xq<|Xr<|Xr<|Xq<|Xr<|Rb Y Y ?_;exact S8 (k:=k) (by omega) (by unfold M8;simp_all)
    ·refine Ck<|Xb<|Xt<|Cr<|p1 Y<|ad (k+1) Y<|Pe Y λc w' b a=>⟨_,?_,k+1,?_,?_,Y,b.wk Y,a⟩
     ·omega
     ·omega
     ·exact AF d (by unfold M8;simp_all)
   ·refine PE 7 Y<|AH [0,3,23] Y<|G7 Y<|Ck<|Xb<|Xt<|Cr<|p1 Y<|ad (k+1) Y<|Pe Y λc w' b a=>⟨_,?_,k+1,?_,?_,Y,b.wk Y,a⟩
    ·omega
    ·omega
    ·exact AF d (by unfold M8;simp_all)
  ·refine Cx<|Xx<|Xx<|Xe<|Xt<|Sr<|p1 Y<|q1 Y (FZ F5 Y Y)<|qv B3Y Y (λw' a=>E7)<|Pe Y<|Ct<|Rb Y Y ?_;show((GO ((s.size:Nat):Int) 1 8):Bool)=_;exact A1g (λi h=>d i (by omega))
theorem EA{w:World}{s:ByteArray}:Cy 74 [(.string s)] w (Val w (.bool (FK s))):=by
 refine enter 10 Tryz.func74 Y Y Y<|Sr<|Pe Y<|Sr<|p1 Y<|qv pZ Y (λw' a=>FC)<|p1 Y<|gs 5 Y Y (λh1=>?_) λh1=>?_
 ·refine p1 Y ?_;have hsz:=IV (s:=s) ‹_›;refine q1 Y (HL (j:=0) F5 Y Y Y Y (by omega))<|PE 3 Y<|Ct<|Rb Y Y ?_;show((decide ((97:Int)<=(sB s 0))):Bool)=_;unfold FK;simp_all
 ·refine PE 5 Y<|Ct<|Rb Y Y ?_;unfold FK;simp_all
theorem EB{w:World}{s:ByteArray}(a:s.size<=9223372036854775807):Cy 56 [(.string s)] w (Val w (.bool (FK s))):=by
 refine enter 11 Tryz.func56 Y Y Y<|Sr<|Pe Y<|Sr<|p1 Y<|qv A6v Y (λw' b=>FD ‹_›)<|p1 Y<|gs 5 Y Y (λh1=>?_) λh1=>?_
 ·refine p1 Y ?_;have hsz:=IV (s:=s) ‹_›;refine q1 Y (HL (j:=0) F5 Y Y Y Y (by omega))<|q1 Y (oN LO ⟨_,VL⟩ Y Y)<|qv B3Y Y (λw' b=>E7)<|PE 2 Y<|Ct<|Rb Y Y ?_;show((GO (sB s 0) 97 122):Bool)=_;unfold FK;rw[A1h ‹_›];simp_all
 ·refine PE 6 Y<|Ct<|Rb Y Y ?_;unfold FK;simp_all
theorem EQ{w:World}{m:List Value}{f:C1G}(r:Gd.rd w m f):Cy 34 [(.agg m.toArray)] w (Val w (.bool (BI f))):=by
 obtain⟨s,rfl,b⟩:=AS r;have a1:=rM b;refine enter 26 Tryz.func34 Y Y Y<|Sr (bX Y λg4=>?_);refine Pe Y<|Dh [bx g4 [.string f.p5,s]] Y<|Cq<|Sr<|fl 0 C5V BK Y<|qv A6p Y (λw' d=>EA)<|P2 Y Y<|JQ 9 Y Y (λt=>?_) λt=>?_
 ·refine PE 5 Y<|GF Y<|Sr<|Pe Y<|Ct<|Xr<|Rb Y Y ?_;unfold BI;simp_all
 ·refine fl 0 C4Q VN Y<|dl HJ Y (AE b)<|PE 2 Y<|Cd Y (λu=>?_) λu=>?_
  ·refine Sr<|Pe Y<|Ct<|Xr<|Rb Y Y ?_;unfold BI;rw[decide_eq_false (by omega:¬f.a.length<=3)];simp
  ·refine Sk<|Cq<|Sr<|fl 0 C4Q VN Y<|dl HJ Y (AE b)<|Pe Y<|Cb<|Cl (λm_ q w'=>∃(k:Nat),(k<=f.a.length)/\(∀i,i<k->∀y,f.a[i]?=some y->BA y=true)/\m_=f.a.length-k/\Fits q 26 [(16,s),(17,nv f.a.length),(18,nv k)]/\St w ([bx g4 [.string f.p5,s]]) w') ?_ ?_
   ·refine λq w' g d=>⟨_,0,?_,?_,Y,g.wk Y,d⟩
    ·omega
    ·intro i hi;omega
   ·rintro m_ q w' ⟨k,hk,hi,rfl,g,d⟩;refine D.use ?_ g d;clear g d q w';refine Sr<|Pe Y<|Cq<|Cd Y (λv=>?_) λv=>?_
    ·refine Sk<|Cq<|Cb<|Sr ?_;obtain⟨a0,e⟩:=sI f.a k;obtain⟨x,z,o⟩:=AC (n:=1) rfl b e;obtain rfl:x=[.string a0]:=o;refine q1 Y (AJ (l:=f.a) (j:=k) HJ Y Y Y (λw' d=>rA d b) Y<|lS e)<|q1 Y (HI BK Y Y z Y)<|Pe Y<|Sr<|p1 Y<|qv pZ Y (λw' d=>FC)<|Pe Y<|CN Y (λc=>?_) λc=>?_
     ·refine Sr<|Pe Y<|Ct<|Xq<|Xr<|Xr<|Xq<|Xr<|Rb Y Y ?_;unfold BI;rw[S6 (p:=BA) e c];simp
     ·refine Ck<|Xb<|Xt<|Cr<|ad (k+1) Y<|Pe Y λq w' g d=>⟨_,?_,k+1,?_,?_,Y,g.wk Y,d⟩
      ·omega
      ·omega
      ·refine AF hi ?_;intro y hy;obtain rfl:y=a0:=Option.some.inj (hy.symm.trans e);exact c
    ·refine Cx<|Xx<|Xx<|Xe<|Xt<|Sr<|Pe Y<|Ct<|Rb Y Y ?_;unfold BI;rw[IN (p:=BA) (λi h=>hi i (by omega)),decide_eq_true (by omega:f.a.length<=3)];simp_all
theorem ER{w:World}{m:List Value}{f:C1G}(s:Gd.rd w m f)(o:P9 f):Cy 55 [(.agg m.toArray)] w (Val w (.bool (BI f))):=by
 obtain⟨u1,rfl,b⟩:=AS s;have a1:=rM b;refine enter 27 Tryz.func55 Y Y Y<|Sr (bX Y λg4=>?_);refine Pe Y<|Dh [bx g4 [.string f.p5,u1]] Y<|Cq<|Sr<|Pe Y<|Cb<|Cl (λm_ q w'=>∃(k:Nat),(k<=f.a.length)/\(∀i,i<k->∀y,f.a[i]?=some y->BA y=true)/\m_=f.a.length-k/\Fits q 27 [(1,pv g4),(3,nv k)]/\St w ([bx g4 [.string f.p5,u1]]) w') ?_ ?_
 ·refine λq w' g d=>⟨_,0,?_,?_,Y,g.wk Y,d⟩
  ·omega
  ·intro i r;omega
 ·rintro m_ q w' ⟨k,hk,r,rfl,g,d⟩;refine D.use ?_ g d;clear g d q w';refine Cq<|Sr<|p1 Y<|fl 0 C4Q VN Y<|dl HJ Y (AE b)<|Pe Y<|Cd Y (λt=>?_) λt=>?_
  ·refine Sk<|Cq<|Cb<|Sr<|fl 0 C4Q VN Y<|p1 Y ?_;obtain⟨a0,c⟩:=sI f.a k;have a2:a0.size<=9223372036854775807:=o.2 _ (List.mem_of_getElem? c);obtain⟨u,v,x⟩:=AC (n:=1) rfl b c;obtain rfl:u=[.string a0]:=x;refine q1 Y (AJ (l:=f.a) (j:=k) HJ Y Y Y (λw' d=>rA d b) Y<|lS c)<|q1 Y (HI BK Y Y v Y)<|qv A6v Y (λw' d=>FD ‹_›)<|Pe Y<|CN Y (λe=>?_) λe=>?_
   ·refine Sr<|Pe Y<|Ct<|Xq<|Xr<|Xr<|Xq<|Xr<|Rb Y Y ?_;unfold BI;rw[S6 (p:=BA) c e];simp
   ·refine Ck<|Xb<|Xt<|Cr<|p1 Y<|ad (k+1) Y<|Pe Y λq w' g d=>⟨_,?_,k+1,?_,?_,Y,g.wk Y,d⟩
    ·omega
    ·omega
    ·refine AF r ?_;intro y hy;obtain rfl:y=a0:=Option.some.inj (hy.symm.trans c);exact e
  ·refine Cx<|Xx<|Xx<|Xe<|Xt<|Sr<|fl 0 C5V BK Y<|qv B3t Y (λw' d=>EB o.1)<|p1 Y<|gs 21 Y Y (λz=>?_) λz=>?_
   ·refine fl 0 C4Q VN Y<|dl HJ Y (AE b)<|PE 3 Y<|Ct<|Rb Y Y ?_;show((decide ((((f.a.length:Nat):Int):Int)<=3)):Bool)=_;unfold BI;rw[IN (p:=BA) (λi h=>r i (by omega))];simp_all;try omega
   ·refine PE 6 Y<|Ct<|Rb Y Y ?_;unfold BI;rw[IN (p:=BA) (λi h=>r i (by omega))];simp_all;try omega
set_option maxHeartbeats 4000000 in
theorem YV{w:World}{k:List Value}{x:C1K}(l:Gd.rd w k x):Cy 45 [(.agg k.toArray)] w (Val w (.bool (AN x))):=by
 obtain⟨d,rfl,m⟩:=D2 l;have ab:=rM m;have c:=CC l;refine enter 48 Tryz.func45 Y Y Y<|Sr (bX Y λg5=>?_);refine Pe Y<|Dh [bx g5 [iv x.s,.string x.p7,.string x.j.p5,d]] Y<|Sr<|q1 Y (Db C1S Y Y (q:=2) Y)<|fl 0 C5V BK Y<|q1 Y (DO Y Y Y)<|p1 Y<|EY 8 Y Y (λa1=>?_) λa1=>?_
 ·refine q1 Y (Db C1S Y Y (q:=2) Y)<|fl 0 C4Q VN Y<|dl HJ Y (AE m)<|PE 3 Y<|Cq<|Sr<|fl 0 C1y CJ Y<|Dx<|Cb<|Cq<|Sr<|PE 2 Y<|AH [1,3,16,17] Y<|Ce Y (λn=>?_) λn=>?_
  ·refine Sk<|I4 Y (beq_iff_eq.2 n)<|Sr<|fl 0 C1W BK Y<|q1 Y (DO Y Y Y)<|p1 Y<|EY 23 Y Y (λa2=>?_) λa2=>?_
   ·refine q1 Y (Db C1S Y Y (q:=2) Y)<|q1 Y (H2 (es:=[.string x.j.p5,d]) 0 C4N Y Y Y Y)<|qv A6Y Y (λw' b=>EQ<|rA b c)<|PE 2 Y<|Ct<|Xq<|Xr<|Rb Y Y ?_;show((BI x.j):Bool)=_;unfold AN;simp_all;try (first|omega|(rw[Bool.eq_iff_iff];simp))
   ·refine PE 5 Y<|Ct<|Xq<|Xr<|Rb Y Y ?_;unfold AN;simp_all;try (first|omega|(rw[Bool.eq_iff_iff];simp))
  ·refine Cr<|PE 2 Y<|Ce Y (λo=>?_) λo=>?_
   ·refine Sr<|fl 0 C1W BK Y<|q1 Y (DO Y Y Y)<|p1 Y<|EY 23 Y Y (λp=>?_) λp=>?_
    ·refine q1 Y (Db C1S Y Y (q:=2) Y)<|q1 Y (H2 (es:=[.string x.j.p5,d]) 0 C4N Y Y Y Y)<|qv A6Y Y (λw' b=>EQ<|rA b c)<|PE 2 Y<|Ct<|Xq<|Xr<|Rb Y Y ?_;show((BI x.j):Bool)=_;unfold AN;simp_all;try (first|omega|(rw[Bool.eq_iff_iff];simp))
    ·refine PE 5 Y<|Ct<|Xq<|Xr<|Rb Y Y ?_;unfold AN;simp_all;try (first|omega|(rw[Bool.eq_iff_iff];simp))
   ·refine Cq<|Sr<|PE 2 Y<|Ce Y (λe=>?_) λe=>?_
    ·refine Sk<|I4 Y (beq_iff_eq.2 e)<|Sr<|fl 0 C1W BK Y<|qv A6p Y (λw' b=>EA)<|p1 Y<|gs 34 Y Y (λa3=>?_) λa3=>?_
     ·refine PE 3 Y<|Ct<|Xq<|Xr<|Rb Y Y ?_;show(((((x.j.a.length:Nat):Int):Int)==0):Bool)=_;unfold AN;simp_all;try (rw[Bool.eq_iff_iff];simp)
     ·refine PE 3 Y<|Ct<|Xq<|Xr<|Rb Y Y ?_;unfold AN;simp_all;try (first|omega|(rw[Bool.eq_iff_iff];simp))
    ·refine Cr<|PE 2 Y<|Ce Y (λr=>?_) λr=>?_
     ·refine Sr<|fl 0 C1W BK Y<|qv A6p Y (λw' b=>EA)<|p1 Y<|gs 34 Y Y (λa4=>?_) λa4=>?_
      ·refine PE 3 Y<|Ct<|Xq<|Xr<|Rb Y Y ?_;show(((((x.j.a.length:Nat):Int):Int)==0):Bool)=_;unfold AN;simp_all;try (rw[Bool.eq_iff_iff];simp)
      ·refine PE 3 Y<|Ct<|Xq<|Xr<|Rb Y Y ?_;unfold AN;simp_all;try (first|omega|(rw[Bool.eq_iff_iff];simp))
     ·refine Cq<|Sr<|PE 2 Y<|Ce Y (λf=>?_) λf=>?_
      ·refine Sk<|I4 Y (beq_iff_eq.2 f)<|Sr<|fl 0 C1W BK Y<|qv A6p Y (λw' b=>EA)<|p1 Y<|gs 43 Y Y (λa5=>?_) λa5=>?_
       ·refine q1 Y (Db C1S Y Y (q:=2) Y)<|q1 Y (H2 (es:=[.string x.j.p5,d]) 0 C4N Y Y Y Y)<|qv A6Y Y (λw' b=>EQ<|rA b c)<|PE 2 Y<|Ct<|Xq<|Xr<|Rb Y Y ?_;show((BI x.j):Bool)=_;unfold AN;simp_all;try (first|omega|(rw[Bool.eq_iff_iff];simp))
       ·refine PE 5 Y<|Ct<|Xq<|Xr<|Rb Y Y ?_;unfold AN;simp_all;try (first|omega|(rw[Bool.eq_iff_iff];simp))
      ·refine Cr<|PE 2 Y<|Ce Y (λt=>?_) λt=>?_
       ·refine Sr<|fl 0 C1W BK Y<|qv A6p Y (λw' b=>EA)<|p1 Y<|gs 43 Y Y (λa6=>?_) λa6=>?_
        ·refine q1 Y (Db C1S Y Y (q:=2) Y)<|q1 Y (H2 (es:=[.string x.j.p5,d]) 0 C4N Y Y Y Y)<|qv A6Y Y (λw' b=>EQ<|rA b c)<|PE 2 Y<|Ct<|Xq<|Xr<|Rb Y Y ?_;show((BI x.j):Bool)=_;unfold AN;simp_all;try (first|omega|(rw[Bool.eq_iff_iff];simp))
        ·refine PE 5 Y<|Ct<|Xq<|Xr<|Rb Y Y ?_;unfold AN;simp_all;try (first|omega|(rw[Bool.eq_iff_iff];simp))
       ·refine Ck<|Xb<|Xt<|Sr<|Pe Y<|Ct<|Rb Y Y ?_;unfold AN;simp_all;try (first|omega|(rw[Bool.eq_iff_iff];simp))
 ·refine PE 7 Y<|Cq<|Sr<|fl 0 C1y CJ Y<|Dx<|Cb<|Cq<|Sr<|PE 2 Y<|AH [1,3,16,17] Y<|Ce Y (λg=>?_) λg=>?_
  ·refine Sk<|I4 Y (beq_iff_eq.2 g)<|Sr<|fl 0 C1W BK Y<|q1 Y (DO Y Y Y)<|p1 Y<|EY 23 Y Y (λu=>?_) λu=>?_
   ·refine q1 Y (Db C1S Y Y (q:=2) Y)<|q1 Y (H2 (es:=[.string x.j.p5,d]) 0 C4N Y Y Y Y)<|qv A6Y Y (λw' b=>EQ<|rA b c)<|PE 2 Y<|Ct<|Xq<|Xr<|Rb Y Y ?_;show((BI x.j):Bool)=_;unfold AN;simp_all;try (first|omega|(rw[Bool.eq_iff_iff];simp))
   ·refine PE 5 Y<|Ct<|Xq<|Xr<|Rb Y Y ?_;unfold AN;simp_all;try (first|omega|(rw[Bool.eq_iff_iff];simp))
  ·refine Cr<|PE 2 Y<|Ce Y (λv=>?_) λv=>?_
   ·refine Sr<|fl 0 C1W BK Y<|q1 Y (DO Y Y Y)<|p1 Y<|EY 23 Y Y (λy=>?_) λy=>?_
    ·refine q1 Y (Db C1S Y Y (q:=2) Y)<|q1 Y (H2 (es:=[.string x.j.p5,d]) 0 C4N Y Y Y Y)<|qv A6Y Y (λw' b=>EQ<|rA b c)<|PE 2 Y<|Ct<|Xq<|Xr<|Rb Y Y ?_;show((BI x.j):Bool)=_;unfold AN;simp_all;try (first|omega|(rw[Bool.eq_iff_iff];simp))
    ·refine PE 5 Y<|Ct<|Xq<|Xr<|Rb Y Y ?_;unfold AN;simp_all;try (first|omega|(rw[Bool.eq_iff_iff];simp))
   ·refine Cq<|Sr<|PE 2 Y<|Ce Y (λh=>?_) λh=>?_
    ·refine Sk<|I4 Y (beq_iff_eq.2 h)<|Sr<|fl 0 C1W BK Y<|qv A6p Y (λw' b=>EA)<|p1 Y<|gs 34 Y Y (λa7=>?_) λa7=>?_
     ·refine PE 3 Y<|Ct<|Xq<|Xr<|Rb Y Y ?_;unfold AN;simp_all;try (first|omega|(rw[Bool.eq_iff_iff];simp))
     ·refine PE 3 Y<|Ct<|Xq<|Xr<|Rb Y Y ?_;unfold AN;simp_all;try (first|omega|(rw[Bool.eq_iff_iff];simp))
    ·refine Cr<|PE 2 Y<|Ce Y (λz=>?_) λz=>?_
     ·refine Sr<|fl 0 C1W BK Y<|qv A6p Y (λw' b=>EA)<|p1 Y<|gs 34 Y Y (λa8=>?_) λa8=>?_
      ·refine PE 3 Y<|Ct<|Xq<|Xr<|Rb Y Y ?_;unfold AN;simp_all;try (first|omega|(rw[Bool.eq_iff_iff];simp))
      ·refine PE 3 Y<|Ct<|Xq<|Xr<|Rb Y Y ?_;unfold AN;simp_all;try (first|omega|(rw[Bool.eq_iff_iff];simp))
     ·refine Cq<|Sr<|PE 2 Y<|Ce Y (λi=>?_) λi=>?_
      ·refine Sk<|I4 Y (beq_iff_eq.2 i)<|Sr<|fl 0 C1W BK Y<|qv A6p Y (λw' b=>EA)<|p1 Y<|gs 43 Y Y (λa9=>?_) λa9=>?_
       ·refine q1 Y (Db C1S Y Y (q:=2) Y)<|q1 Y (H2 (es:=[.string x.j.p5,d]) 0 C4N Y Y Y Y)<|qv A6Y Y (λw' b=>EQ<|rA b c)<|PE 2 Y<|Ct<|Xq<|Xr<|Rb Y Y ?_;show((BI x.j):Bool)=_;unfold AN;simp_all;try (first|omega|(rw[Bool.eq_iff_iff];simp))
       ·refine PE 5 Y<|Ct<|Xq<|Xr<|Rb Y Y ?_;unfold AN;simp_all;try (first|omega|(rw[Bool.eq_iff_iff];simp))
      ·refine Cr<|PE 2 Y<|Ce Y (λa0=>?_) λa0=>?_
       ·refine Sr<|fl 0 C1W BK Y<|qv A6p Y (λw' b=>EA)<|p1 Y<|gs 43 Y Y (λaa=>?_) λaa=>?_
        ·refine q1 Y (Db C1S Y Y (q:=2) Y)<|q1 Y (H2 (es:=[.string x.j.p5,d]) 0 C4N Y Y Y Y)<|qv A6Y Y (λw' b=>EQ<|rA b c)<|PE 2 Y<|Ct<|Xq<|Xr<|Rb Y Y ?_;show((BI x.j):Bool)=_;unfold AN;simp_all;try (first|omega|(rw[Bool.eq_iff_iff];simp))
        ·refine PE 5 Y<|Ct<|Xq<|Xr<|Rb Y Y ?_;unfold AN;simp_all;try (first|omega|(rw[Bool.eq_iff_iff];simp))
       ·refine Ck<|Xb<|Xt<|Sr<|Pe Y<|Ct<|Rb Y Y ?_;unfold AN;simp_all;try (first|omega|(rw[Bool.eq_iff_iff];simp))
set_option maxHeartbeats 4000000 in
theorem YW{w:World}{l:List Value}{x:C1K}(m:Gd.rd w l x)(b:wK x):Cy 21 [(.agg l.toArray)] w (Val w (.bool (AN x))):=by
 obtain⟨e,rfl,n⟩:=D2 m;have ac:=rM n;have d:=CC m;refine enter 48 Tryz.func21 Y Y Y<|Sr (bX Y λg5=>?_);refine Pe Y<|Dh [bx g5 [iv x.s,.string x.p7,.string x.j.p5,e]] Y<|Sr<|q1 Y (Db C1S Y Y (q:=2) Y)<|fl 0 C5V BK Y<|q1 Y (DO Y Y Y)<|p1 Y<|EY 8 Y Y (λa2=>?_) λa2=>?_
 ·refine q1 Y (Db C1S Y Y (q:=2) Y)<|fl 0 C4Q VN Y<|dl HJ Y (AE n)<|PE 3 Y<|Cq<|Sr<|fl 0 C1y CJ Y<|Dx<|Cb<|Cq<|Sr<|PE 2 Y<|AH [1,3,16,17] Y<|Ce Y (λo=>?_) λo=>?_
  ·refine Sk<|I4 Y (beq_iff_eq.2 o)<|Sr<|fl 0 C1W BK Y<|q1 Y (DO Y Y Y)<|p1 Y<|EY 23 Y Y (λa3=>?_) λa3=>?_
   ·refine q1 Y (Db C1S Y Y (q:=2) Y)<|q1 Y (H2 (es:=[.string x.j.p5,e]) 0 C4N Y Y Y Y)<|qv B3s Y (λw' c=>ER (rA c d) b.2.2)<|PE 2 Y<|Ct<|Xq<|Xr<|Rb Y Y ?_;show((BI x.j):Bool)=_;unfold AN;simp_all;try (first|omega|(rw[Bool.eq_iff_iff];simp))
   ·refine PE 5 Y<|Ct<|Xq<|Xr<|Rb Y Y ?_;unfold AN;simp_all;try (first|omega|(rw[Bool.eq_iff_iff];simp))
  ·refine Cr<|PE 2 Y<|Ce Y (λp=>?_) λp=>?_
   ·refine Sr<|fl 0 C1W BK Y<|q1 Y (DO Y Y Y)<|p1 Y<|EY 23 Y Y (λr=>?_) λr=>?_
    ·refine q1 Y (Db C1S Y Y (q:=2) Y)<|q1 Y (H2 (es:=[.string x.j.p5,e]) 0 C4N Y Y Y Y)<|qv B3s Y (λw' c=>ER (rA c d) b.2.2)<|PE 2 Y<|Ct<|Xq<|Xr<|Rb Y Y ?_;show((BI x.j):Bool)=_;unfold AN;simp_all;try (first|omega|(rw[Bool.eq_iff_iff];simp))
    ·refine PE 5 Y<|Ct<|Xq<|Xr<|Rb Y Y ?_;unfold AN;simp_all;try (first|omega|(rw[Bool.eq_iff_iff];simp))
   ·refine Cq<|Sr<|PE 2 Y<|Ce Y (λf=>?_) λf=>?_
    ·refine Sk<|I4 Y (beq_iff_eq.2 f)<|Sr<|fl 0 C1W BK Y<|qv B3t Y (λw' c=>EB b.2.1)<|p1 Y<|gs 34 Y Y (λa4=>?_) λa4=>?_
     ·refine PE 3 Y<|Ct<|Xq<|Xr<|Rb Y Y ?_;show(((((x.j.a.length:Nat):Int):Int)==0):Bool)=_;unfold AN;simp_all;try (rw[Bool.eq_iff_iff];simp)
     ·refine PE 3 Y<|Ct<|Xq<|Xr<|Rb Y Y ?_;unfold AN;simp_all;try (first|omega|(rw[Bool.eq_iff_iff];simp))
    ·refine Cr<|PE 2 Y<|Ce Y (λt=>?_) λt=>?_
     ·refine Sr<|fl 0 C1W BK Y<|qv B3t Y (λw' c=>EB b.2.1)<|p1 Y<|gs 34 Y Y (λa5=>?_) λa5=>?_
      ·refine PE 3 Y<|Ct<|Xq<|Xr<|Rb Y Y ?_;show(((((x.j.a.length:Nat):Int):Int)==0):Bool)=_;unfold AN;simp_all;try (rw[Bool.eq_iff_iff];simp)
      ·refine PE 3 Y<|Ct<|Xq<|Xr<|Rb Y Y ?_;unfold AN;simp_all;try (first|omega|(rw[Bool.eq_iff_iff];simp))
     ·refine Cq<|Sr<|PE 2 Y<|Ce Y (λg=>?_) λg=>?_
      ·refine Sk<|I4 Y (beq_iff_eq.2 g)<|Sr<|fl 0 C1W BK Y<|qv B3t Y (λw' c=>EB b.2.1)<|p1 Y<|gs 43 Y Y (λa6=>?_) λa6=>?_
       ·refine q1 Y (Db C1S Y Y (q:=2) Y)<|q1 Y (H2 (es:=[.string x.j.p5,e]) 0 C4N Y Y Y Y)<|qv B3s Y (λw' c=>ER (rA c d) b.2.2)<|PE 2 Y<|Ct<|Xq<|Xr<|Rb Y Y ?_;show((BI x.j):Bool)=_;unfold AN;simp_all;try (first|omega|(rw[Bool.eq_iff_iff];simp))
       ·refine PE 5 Y<|Ct<|Xq<|Xr<|Rb Y Y ?_;unfold AN;simp_all;try (first|omega|(rw[Bool.eq_iff_iff];simp))
      ·refine Cr<|PE 2 Y<|Ce Y (λu=>?_) λu=>?_
       ·refine Sr<|fl 0 C1W BK Y<|qv B3t Y (λw' c=>EB b.2.1)<|p1 Y<|gs 43 Y Y (λa7=>?_) λa7=>?_
        ·refine q1 Y (Db C1S Y Y (q:=2) Y)<|q1 Y (H2 (es:=[.string x.j.p5,e]) 0 C4N Y Y Y Y)<|qv B3s Y (λw' c=>ER (rA c d) b.2.2)<|PE 2 Y<|Ct<|Xq<|Xr<|Rb Y Y ?_;show((BI x.j):Bool)=_;unfold AN;simp_all;try (first|omega|(rw[Bool.eq_iff_iff];simp))
        ·refine PE 5 Y<|Ct<|Xq<|Xr<|Rb Y Y ?_;unfold AN;simp_all;try (first|omega|(rw[Bool.eq_iff_iff];simp))
       ·refine Ck<|Xb<|Xt<|Sr<|Pe Y<|Ct<|Rb Y Y ?_;unfold AN;simp_all;try (first|omega|(rw[Bool.eq_iff_iff];simp))
 ·refine PE 7 Y<|Cq<|Sr<|fl 0 C1y CJ Y<|Dx<|Cb<|Cq<|Sr<|PE 2 Y<|AH [1,3,16,17] Y<|Ce Y (λh=>?_) λh=>?_
  ·refine Sk<|I4 Y (beq_iff_eq.2 h)<|Sr<|fl 0 C1W BK Y<|q1 Y (DO Y Y Y)<|p1 Y<|EY 23 Y Y (λv=>?_) λv=>?_
   ·refine q1 Y (Db C1S Y Y (q:=2) Y)<|q1 Y (H2 (es:=[.string x.j.p5,e]) 0 C4N Y Y Y Y)<|qv B3s Y (λw' c=>ER (rA c d) b.2.2)<|PE 2 Y<|Ct<|Xq<|Xr<|Rb Y Y ?_;show((BI x.j):Bool)=_;unfold AN;simp_all;try (first|omega|(rw[Bool.eq_iff_iff];simp))
   ·refine PE 5 Y<|Ct<|Xq<|Xr<|Rb Y Y ?_;unfold AN;simp_all;try (first|omega|(rw[Bool.eq_iff_iff];simp))
  ·refine Cr<|PE 2 Y<|Ce Y (λy=>?_) λy=>?_
   ·refine Sr<|fl 0 C1W BK Y<|q1 Y (DO Y Y Y)<|p1 Y<|EY 23 Y Y (λz=>?_) λz=>?_
    ·refine q1 Y (Db C1S Y Y (q:=2) Y)<|q1 Y (H2 (es:=[.string x.j.p5,e]) 0 C4N Y Y Y Y)<|qv B3s Y (λw' c=>ER (rA c d) b.2.2)<|PE 2 Y<|Ct<|Xq<|Xr<|Rb Y Y ?_;show((BI x.j):Bool)=_;unfold AN;simp_all;try (first|omega|(rw[Bool.eq_iff_iff];simp))
    ·refine PE 5 Y<|Ct<|Xq<|Xr<|Rb Y Y ?_;unfold AN;simp_all;try (first|omega|(rw[Bool.eq_iff_iff];simp))
   ·refine Cq<|Sr<|PE 2 Y<|Ce Y (λi=>?_) λi=>?_
    ·refine Sk<|I4 Y (beq_iff_eq.2 i)<|Sr<|fl 0 C1W BK Y<|qv B3t Y (λw' c=>EB b.2.1)<|p1 Y<|gs 34 Y Y (λa8=>?_) λa8=>?_
     ·refine PE 3 Y<|Ct<|Xq<|Xr<|Rb Y Y ?_;unfold AN;simp_all;try (first|omega|(rw[Bool.eq_iff_iff];simp))
     ·refine PE 3 Y<|Ct<|Xq<|Xr<|Rb Y Y ?_;unfold AN;simp_all;try (first|omega|(rw[Bool.eq_iff_iff];simp))
    ·refine Cr<|PE 2 Y<|Ce Y (λa0=>?_) λa0=>?_
     ·refine Sr<|fl 0 C1W BK Y<|qv B3t Y (λw' c=>EB b.2.1)<|p1 Y<|gs 34 Y Y (λa9=>?_) λa9=>?_
      ·refine PE 3 Y<|Ct<|Xq<|Xr<|Rb Y Y ?_;unfold AN;simp_all;try (first|omega|(rw[Bool.eq_iff_iff];simp))
      ·refine PE 3 Y<|Ct<|Xq<|Xr<|Rb Y Y ?_;unfold AN;simp_all;try (first|omega|(rw[Bool.eq_iff_iff];simp))
     ·refine Cq<|Sr<|PE 2 Y<|Ce Y (λk=>?_) λk=>?_
      ·refine Sk<|I4 Y (beq_iff_eq.2 k)<|Sr<|fl 0 C1W BK Y<|qv B3t Y (λw' c=>EB b.2.1)<|p1 Y<|gs 43 Y Y (λaa=>?_) λaa=>?_
       ·refine q1 Y (Db C1S Y Y (q:=2) Y)<|q1 Y (H2 (es:=[.string x.j.p5,e]) 0 C4N Y Y Y Y)<|qv B3s Y (λw' c=>ER (rA c d) b.2.2)<|PE 2 Y<|Ct<|Xq<|Xr<|Rb Y Y ?_;show((BI x.j):Bool)=_;unfold AN;simp_all;try (first|omega|(rw[Bool.eq_iff_iff];simp))
       ·refine PE 5 Y<|Ct<|Xq<|Xr<|Rb Y Y ?_;unfold AN;simp_all;try (first|omega|(rw[Bool.eq_iff_iff];simp))
      ·refine Cr<|PE 2 Y<|Ce Y (λa1=>?_) λa1=>?_
       ·refine Sr<|fl 0 C1W BK Y<|qv B3t Y (λw' c=>EB b.2.1)<|p1 Y<|gs 43 Y Y (λab=>?_) λab=>?_
        ·refine q1 Y (Db C1S Y Y (q:=2) Y)<|q1 Y (H2 (es:=[.string x.j.p5,e]) 0 C4N Y Y Y Y)<|qv B3s Y (λw' c=>ER (rA c d) b.2.2)<|PE 2 Y<|Ct<|Xq<|Xr<|Rb Y Y ?_;show((BI x.j):Bool)=_;unfold AN;simp_all;try (first|omega|(rw[Bool.eq_iff_iff];simp))
        ·refine PE 5 Y<|Ct<|Xq<|Xr<|Rb Y Y ?_;unfold AN;simp_all;try (first|omega|(rw[Bool.eq_iff_iff];simp))
       ·refine Ck<|Xb<|Xt<|Sr<|Pe Y<|Ct<|Rb Y Y ?_;unfold AN;simp_all;try (first|omega|(rw[Bool.eq_iff_iff];simp))
end Go.Sy.Ev1
end
/-
  Engines and their parts: sizes and bounds.
  Conditions: none.
-/
section
namespace Go.Sy
def DD{α:Type}(c:α->Nat)(l:List α):Nat:=l.length+AI c l
def LR{α:Type}(p:α->Prop)(l:List α):Prop:=∀x∈l,p x
theorem C8{α:Type}{c:α->Nat}{l:List α}{x:α}(h:x∈l):c x<=AI c l:=VO (List.mem_map_of_mem h)
def E8(p:C1H):Nat:=p.p5.size+M9 p.a
def IP(p:C1H):Prop:=VP p.p5/\A1i p.a
def BW(x:C1L):Nat:=E8 x.p2+x.t.size+x.p6.size
def LB(x:C1L):Prop:=okI x.s/\IP x.p2/\VP x.t/\VP x.p6
def CV(x:Action):Nat:=E8 x.p2
def QB(x:Action):Prop:=okI x.s/\IP x.p2
def BG(r:C1M):Nat:=r.y.size+DD BW r.q+DD CV r.q0
def H9(r:C1M):Prop:=VP r.y/\okI r.p3/\LR LB r.q/\LR QB r.q0
def CM(s:C1N):Nat:=F9 s.j
def MA(s:C1N):Prop:=P9 s.j/\okI s.q1
def DG(f:C1O):Nat:=f.p7.size+f.q2.length
def TX(f:C1O):Prop:=VP f.p7/\LR okI f.q2
def DI(e:C1P):Nat:=DD BG e.p8+DD CM e.w+DD DG e.m+DD L9 e.u
def QC(e:C1P):Prop:=LR H9 e.p8/\LR MA e.w/\okI e.g/\LR TX e.m/\True/\LR wK e.u
end Go.Sy
end
