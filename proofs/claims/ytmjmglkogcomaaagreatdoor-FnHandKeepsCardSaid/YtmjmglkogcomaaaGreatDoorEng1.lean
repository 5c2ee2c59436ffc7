/-
  Contracts of functions of the program, walked (printed by a program of ours).
  Conditions: those that each theorem states.
-/
import Derived.Test.YtmjmglkogcomaaaGreatDoorRul
set_option linter.unusedVariables false
set_option maxRecDepth 20000
namespace Go.Sy.Eng1
open Go Go.RowKit Go.Proofs Go.Sy
open Go.Sy.Bel1 Go.Sy.Ev1
theorem J9{w:World}{s:ByteArray}:Cy 133 [(.string s)] w (Val w (.bool (BM s))):=by
 refine enter 16 Tryz.func133 Y Y Y<|Sr<|Pe Y<|Sr<|p1 Y<|q1 Y (FZ F5 Y Y)<|P2 Y Y<|EY 6 Y Y (λa=>?_) λa=>?_
 ·refine p1 Y<|q1 Y (HL (j:=0) F5 Y Y Y Y (by omega))<|P3 Y Y Y<|oV 11 Y Y (λb=>?_) λb=>?_
  ·refine p1 Y<|q1 Y (oU (k:=1) F5 Y Y Y Y (by omega))<|qv pZ Y (λw' c=>FC)<|PE 2 Y<|Ct<|Rb Y Y ?_;show((BA (s.extract 1 s.size)):Bool)=_;unfold BM;simp_all;try (intro h;omega)
  ·refine PE 5 Y<|Ct<|Rb Y Y ?_;unfold BM;simp_all;try (intro h;omega)
 ·refine PE 10 Y<|Ct<|Rb Y Y ?_;unfold BM;simp_all;try (intro h;omega)
theorem GQ{w:World}{s:ByteArray}(c:s.size<=9223372036854775807):Cy 220 [(.string s)] w (Val w (.bool (BM s))):=by
 refine enter 16 Tryz.func220 Y Y Y<|Sr<|Pe Y<|Sr<|p1 Y<|q1 Y (FZ F5 Y Y)<|P2 Y Y<|EY 6 Y Y (λa=>?_) λa=>?_
 ·refine p1 Y<|q1 Y (HL (j:=0) F5 Y Y Y Y (by omega))<|P3 Y Y Y<|oV 11 Y Y (λb=>?_) λb=>?_
  ·refine p1 Y<|q1 Y (oU (k:=1) F5 Y Y Y Y (by omega))<|qv A6v Y (λw' d=>FD (by rw[ByteArray.size_extract];omega))<|PE 2 Y<|Ct<|Rb Y Y ?_;show((BA (s.extract 1 s.size)):Bool)=_;unfold BM;simp_all;try (intro h;omega)
  ·refine PE 5 Y<|Ct<|Rb Y Y ?_;unfold BM;simp_all;try (intro h;omega)
 ·refine PE 10 Y<|Ct<|Rb Y Y ?_;unfold BM;simp_all;try (intro h;omega)
theorem GR{w:World}{s:ByteArray}:Cy 132 [(.string s)] w (Val w (.bool (EP s))):=by
 refine enter 9 Tryz.func132 Y Y Y<|Sr<|Pe Y<|Sr<|p1 Y<|qv pZ Y (λw' a=>FC)<|p1 Y<|gs 5 Y Y (λh1=>?_) λh1=>?_
 ·refine PE 4 Y<|Ct<|Rb Y Y ?_;unfold EP;simp_all
 ·refine p1 Y<|qv A3Q Y (λw' a=>J9)<|PE 2 Y<|Ct<|Rb Y Y ?_;show((BM s):Bool)=_;unfold EP;simp_all
theorem GT{w:World}{s:ByteArray}(a:s.size<=9223372036854775807):Cy 219 [(.string s)] w (Val w (.bool (EP s))):=by
 refine enter 9 Tryz.func219 Y Y Y<|Sr<|Pe Y<|Sr<|p1 Y<|qv A6v Y (λw' b=>FD ‹_›)<|p1 Y<|gs 5 Y Y (λh1=>?_) λh1=>?_
 ·refine PE 4 Y<|Ct<|Rb Y Y ?_;unfold EP;simp_all
 ·refine p1 Y<|qv pP Y (λw' b=>GQ ‹_›)<|PE 2 Y<|Ct<|Rb Y Y ?_;show((BM s):Bool)=_;unfold EP;simp_all
theorem GU{w:World}{g:List Value}{p:C1H}(q:Gd.rd w g p):Cy 92 [(.agg g.toArray)] w (Val w (.bool (CK p))):=by
 obtain⟨r,rfl,b⟩:=B8 q;have a1:=rM b;refine enter 26 Tryz.func92 Y Y Y<|Sr (bX Y λg4=>?_);refine Pe Y<|Dh [bx g4 [.string p.p5,r]] Y<|Cq<|Sr<|fl 0 B6e BK Y<|qv A6p Y (λw' d=>EA)<|P2 Y Y<|JQ 9 Y Y (λs=>?_) λs=>?_
 ·refine PE 5 Y<|GF Y<|Sr<|Pe Y<|Ct<|Xr<|Rb Y Y ?_;unfold CK;simp_all
 ·refine fl 0 B6C VN Y<|dl HJ Y (AE b)<|PE 2 Y<|Cd Y (λt=>?_) λt=>?_
  ·refine Sr<|Pe Y<|Ct<|Xr<|Rb Y Y ?_;unfold CK;rw[decide_eq_false (by omega:¬p.a.length<=3)];simp
  ·refine Sk<|Cq<|Sr<|fl 0 B6C VN Y<|dl HJ Y (AE b)<|Pe Y<|Cb<|Cl (λm_ o w'=>∃(k:Nat),(k<=p.a.length)/\(∀i,i<k->∀y,p.a[i]?=some y->EP y=true)/\m_=p.a.length-k/\Fits o 26 [(16,r),(17,nv p.a.length),(18,nv k)]/\St w ([bx g4 [.string p.p5,r]]) w') ?_ ?_
   ·refine λo w' f d=>⟨_,0,?_,?_,Y,f.wk Y,d⟩
    ·omega
    ·intro i z;omega
   ·rintro m_ o w' ⟨k,hk,z,rfl,f,d⟩;refine D.use ?_ f d;clear f d o w';refine Sr<|Pe Y<|Cq<|Cd Y (λu=>?_) λu=>?_
    ·refine Sk<|Cq<|Cb<|Sr ?_;obtain⟨a0,e⟩:=sI p.a k;obtain⟨v,x,m⟩:=AC (n:=1) rfl b e;obtain rfl:v=[.string a0]:=m;refine q1 Y (AJ (l:=p.a) (j:=k) HJ Y Y Y (λw' d=>rA d b) Y<|lS e)<|q1 Y (HI BK Y Y x Y)<|Pe Y<|Sr<|p1 Y<|qv OP Y (λw' d=>GR)<|Pe Y<|CN Y (λc=>?_) λc=>?_
     ·refine Sr<|Pe Y<|Ct<|Xq<|Xr<|Xr<|Xq<|Xr<|Rb Y Y ?_;unfold CK;rw[S6 (p:=EP) e c];simp
     ·refine Ck<|Xb<|Xt<|Cr<|ad (k+1) Y<|Pe Y λo w' f d=>⟨_,?_,k+1,?_,?_,Y,f.wk Y,d⟩
      ·omega
      ·omega
      ·refine AF z ?_;intro y hy;obtain rfl:y=a0:=Option.some.inj (hy.symm.trans e);exact c
    ·refine Cx<|Xx<|Xx<|Xe<|Xt<|Sr<|Pe Y<|Ct<|Rb Y Y ?_;unfold CK;rw[IN (p:=EP) (λi h=>z i (by omega)),decide_eq_true (by omega:p.a.length<=3)];simp_all
theorem GV{w:World}{g:List Value}{p:C1H}(r:Gd.rd w g p)(m:IP p):Cy 172 [(.agg g.toArray)] w (Val w (.bool (CK p))):=by
 obtain⟨u1,rfl,b⟩:=B8 r;have a1:=rM b;refine enter 27 Tryz.func172 Y Y Y<|Sr (bX Y λg4=>?_);refine Pe Y<|Dh [bx g4 [.string p.p5,u1]] Y<|Cq<|Sr<|Pe Y<|Cb<|Cl (λm_ o w'=>∃(k:Nat),(k<=p.a.length)/\(∀i,i<k->∀y,p.a[i]?=some y->EP y=true)/\m_=p.a.length-k/\Fits o 27 [(1,pv g4),(3,nv k)]/\St w ([bx g4 [.string p.p5,u1]]) w') ?_ ?_
 ·refine λo w' f d=>⟨_,0,?_,?_,Y,f.wk Y,d⟩
  ·omega
  ·intro i q;omega
 ·rintro m_ o w' ⟨k,hk,q,rfl,f,d⟩;refine D.use ?_ f d;clear f d o w';refine Cq<|Sr<|p1 Y<|fl 0 B6C VN Y<|dl HJ Y (AE b)<|Pe Y<|Cd Y (λs=>?_) λs=>?_
  ·refine Sk<|Cq<|Cb<|Sr<|fl 0 B6C VN Y<|p1 Y ?_;obtain⟨a0,c⟩:=sI p.a k;have t:a0.size<=9223372036854775807:=m.2 _ (List.mem_of_getElem? c);obtain⟨u,v,x⟩:=AC (n:=1) rfl b c;obtain rfl:u=[.string a0]:=x;refine q1 Y (AJ (l:=p.a) (j:=k) HJ Y Y Y (λw' d=>rA d b) Y<|lS c)<|q1 Y (HI BK Y Y v Y)<|qv A3f Y (λw' d=>GT t)<|Pe Y<|CN Y (λe=>?_) λe=>?_
   ·refine Sr<|Pe Y<|Ct<|Xq<|Xr<|Xr<|Xq<|Xr<|Rb Y Y ?_;unfold CK;rw[S6 (p:=EP) c e];simp
   ·refine Ck<|Xb<|Xt<|Cr<|p1 Y<|ad (k+1) Y<|Pe Y λo w' f d=>⟨_,?_,k+1,?_,?_,Y,f.wk Y,d⟩
    ·omega
    ·omega
    ·refine AF q ?_;intro y hy;obtain rfl:y=a0:=Option.some.inj (hy.symm.trans c);exact e
  ·refine Cx<|Xx<|Xx<|Xe<|Xt<|Sr<|fl 0 B6e BK Y<|qv B3t Y (λw' d=>EB m.1)<|p1 Y<|gs 21 Y Y (λz=>?_) λz=>?_
   ·refine fl 0 B6C VN Y<|dl HJ Y (AE b)<|PE 3 Y<|Ct<|Rb Y Y ?_;show((decide ((((p.a.length:Nat):Int):Int)<=3)):Bool)=_;unfold CK;rw[IN (p:=EP) (λi h=>q i (by omega))];simp_all;try omega
   ·refine PE 6 Y<|Ct<|Rb Y Y ?_;unfold CK;rw[IN (p:=EP) (λi h=>q i (by omega))];simp_all;try omega
theorem G4{w:World}{b:List Value}{p:C1H}(d:Gd.rd w b p):Cy 153 [(.agg b.toArray)] w (Val w (.bool (B6 p))):=by
 obtain⟨f,rfl,c⟩:=B8 d;have g:=rM c;refine enter 12 Tryz.func153 Y Y Y<|Sr (bX Y λh=>?_);refine Pe Y<|Dh [bx h [.string p.p5,f]] Y<|Sr<|fl 0 B6e BK Y<|q1 Y (DO Y Y Y)<|p1 Y<|EY 6 Y Y (λe=>?_) λe=>?_
 ·refine fl 0 B6C VN Y<|dl HJ Y (AE c)<|PE 3 Y<|Ct<|Rb Y Y ?_;show(((((p.a.length:Nat):Int):Int)==0):Bool)=_;unfold B6;simp_all;try (rw[Bool.eq_iff_iff];simp)
 ·refine PE 6 Y<|Ct<|Rb Y Y ?_;unfold B6;simp_all;try (rw[Bool.eq_iff_iff];simp)
set_option maxHeartbeats 4000000 in
theorem NJ{w:World}{f:List Value}{x:C1L}(g:Gd.rd w f x):Cy 116 [(.agg f.toArray)] w (Val w (.bool (BD x))):=by
 obtain⟨e,rfl,l⟩:=A8 g;have z:=rM l;have b:=AK g;refine enter 38 Tryz.func116 Y Y Y<|Sr (bX Y λg5=>?_);refine Pe Y<|Dh [bx g5 [iv x.s,.string x.p2.p5,e,.string x.t,.string x.p6]] Y<|Cq<|Sr<|fl 0 C4z CJ Y<|Dx<|Cb<|Cq<|Sr<|PE 2 Y<|Ce Y (λh=>?_) λh=>?_
 ·refine Sk<|I4 Y (beq_iff_eq.2 h)<|Sr<|q1 Y (Db C4h Y Y (q:=1) Y)<|q1 Y (H2 (es:=[.string x.p2.p5,e]) 0 B8m Y Y Y Y)<|qv A4g Y (λw' a=>GU<|rA a b)<|p1 Y<|gs 11 Y Y (λh8=>?_) λh8=>?_
  ·refine fl 0 C5X BK Y<|q1 Y (DO Y Y Y)<|P2 Y Y<|EY 16 Y Y (λm=>?_) λm=>?_
   ·refine fl 0 C5S BK Y<|q1 Y (DO Y Y Y)<|PE 2 Y<|Ct<|Xq<|Xr<|Rb Y Y ?_;show((decide ((x.p6:ByteArray)=⟨#[]⟩)):Bool)=_;unfold BD B6;simp_all
   ·refine PE 5 Y<|Ct<|Xq<|Xr<|Rb Y Y ?_;unfold BD B6;simp_all
  ·refine PE 10 Y<|Ct<|Xq<|Xr<|Rb Y Y ?_;unfold BD B6;simp_all
 ·refine Cr<|PE 2 Y<|Ce Y (λi=>?_) λi=>?_
  ·refine Sr<|q1 Y (Db C4h Y Y (q:=1) Y)<|q1 Y (H2 (es:=[.string x.p2.p5,e]) 0 B8m Y Y Y Y)<|qv A4g Y (λw' a=>GU<|rA a b)<|p1 Y<|gs 11 Y Y (λn=>?_) λn=>?_
   ·refine fl 0 C5X BK Y<|q1 Y (DO Y Y Y)<|P2 Y Y<|EY 16 Y Y (λj=>?_) λj=>?_
    ·refine fl 0 C5S BK Y<|q1 Y (DO Y Y Y)<|PE 2 Y<|Ct<|Xq<|Xr<|Rb Y Y ?_;show((decide ((x.p6:ByteArray)=⟨#[]⟩)):Bool)=_;unfold BD B6;simp_all
    ·refine PE 5 Y<|Ct<|Xq<|Xr<|Rb Y Y ?_;unfold BD B6;simp_all
   ·refine PE 10 Y<|Ct<|Xq<|Xr<|Rb Y Y ?_;unfold BD B6;simp_all
  ·refine Cq<|Sr<|PE 2 Y<|Ce Y (λc=>?_) λc=>?_
   ·refine Sk<|I4 Y (beq_iff_eq.2 c)<|Sr<|fl 0 C5X BK Y<|qv OP Y (λw' a=>GR)<|p1 Y<|gs 28 Y Y (λo=>?_) λo=>?_
    ·refine fl 0 C5S BK Y<|qv OP Y (λw' a=>GR)<|P2 Y Y<|gs 33 Y Y (λp=>?_) λp=>?_
     ·refine q1 Y (Db C4h Y Y (q:=1) Y)<|q1 Y (H2 (es:=[.string x.p2.p5,e]) 0 B8m Y Y Y Y)<|qv jD Y (λw' a=>G4<|rA a b)<|PE 2 Y<|Ct<|Xq<|Xr<|Rb Y Y ?_;show((B6 x.p2):Bool)=_;unfold BD B6;simp_all
     ·refine PE 5 Y<|Ct<|Xq<|Xr<|Rb Y Y ?_;unfold BD B6;simp_all
    ·refine PE 10 Y<|Ct<|Xq<|Xr<|Rb Y Y ?_;unfold BD B6;simp_all
   ·refine Sr<|PE 2 Y<|Ce Y (λd=>?_) λd=>?_
    ·refine Sk<|I4 Y (beq_iff_eq.2 d)<|Sr<|fl 0 C5X BK Y<|qv OP Y (λw' a=>GR)<|p1 Y<|gs 28 Y Y (λr=>?_) λr=>?_
     ·refine fl 0 C5S BK Y<|qv OP Y (λw' a=>GR)<|P2 Y Y<|gs 33 Y Y (λu=>?_) λu=>?_
      ·refine q1 Y (Db C4h Y Y (q:=1) Y)<|q1 Y (H2 (es:=[.string x.p2.p5,e]) 0 B8m Y Y Y Y)<|qv jD Y (λw' a=>G4<|rA a b)<|PE 2 Y<|Ct<|Xq<|Xr<|Rb Y Y ?_;show((B6 x.p2):Bool)=_;unfold BD B6;simp_all
      ·refine PE 5 Y<|Ct<|Xq<|Xr<|Rb Y Y ?_;unfold BD B6;simp_all
     ·refine PE 10 Y<|Ct<|Xq<|Xr<|Rb Y Y ?_;unfold BD B6;simp_all
    ·refine Cr<|PE 2 Y<|Ce Y (λk=>?_) λk=>?_
     ·refine Sr<|fl 0 C5X BK Y<|qv OP Y (λw' a=>GR)<|p1 Y<|gs 28 Y Y (λv=>?_) λv=>?_
      ·refine fl 0 C5S BK Y<|qv OP Y (λw' a=>GR)<|P2 Y Y<|gs 33 Y Y (λy=>?_) λy=>?_
       ·refine q1 Y (Db C4h Y Y (q:=1) Y)<|q1 Y (H2 (es:=[.string x.p2.p5,e]) 0 B8m Y Y Y Y)<|qv jD Y (λw' a=>G4<|rA a b)<|PE 2 Y<|Ct<|Xq<|Xr<|Rb Y Y ?_;show((B6 x.p2):Bool)=_;unfold BD B6;simp_all
       ·refine PE 5 Y<|Ct<|Xq<|Xr<|Rb Y Y ?_;unfold BD B6;simp_all
      ·refine PE 10 Y<|Ct<|Xq<|Xr<|Rb Y Y ?_;unfold BD B6;simp_all
     ·refine Ck<|Xb<|Xt<|Sr<|Pe Y<|Ct<|Rb Y Y ?_;unfold BD B6;simp_all
set_option maxHeartbeats 4000000 in
theorem NK{w:World}{f:List Value}{x:C1L}(g:Gd.rd w f x)(a:LB x):Cy 179 [(.agg f.toArray)] w (Val w (.bool (BD x))):=by
 obtain⟨v,rfl,b⟩:=A8 g;have a3:=rM b;have h:=AK g;refine enter 46 Tryz.func179 Y Y Y<|Sr (bX Y λg5=>?_);refine Pe Y<|Dh [bx g5 [iv x.s,.string x.p2.p5,v,.string x.t,.string x.p6]] Y<|Cq<|Sr<|fl 0 C4z CJ Y<|Dx<|Cb<|Cq<|Sr<|PE 2 Y<|Ce Y (λi=>?_) λi=>?_
 ·refine Sk<|I4 Y (beq_iff_eq.2 i)<|Sr<|q1 Y (Db C4h Y Y (q:=1) Y)<|q1 Y (H2 (es:=[.string x.p2.p5,v]) 0 B8m Y Y Y Y)<|qv TS Y (λw' c=>GV (rA c h) a.2.1)<|p1 Y<|gs 11 Y Y (λh8=>?_) λh8=>?_
  ·refine fl 0 C5X BK Y<|q1 Y (DO Y Y Y)<|P2 Y Y<|EY 16 Y Y (λy=>?_) λy=>?_
   ·refine fl 0 C5S BK Y<|q1 Y (DO Y Y Y)<|PE 2 Y<|Ct<|Xq<|Xr<|Rb Y Y ?_;show((decide ((x.p6:ByteArray)=⟨#[]⟩)):Bool)=_;unfold BD B6;simp_all
   ·refine PE 5 Y<|Ct<|Xq<|Xr<|Rb Y Y ?_;unfold BD B6;simp_all
  ·refine PE 10 Y<|Ct<|Xq<|Xr<|Rb Y Y ?_;unfold BD B6;simp_all
 ·refine Cr<|PE 2 Y<|Ce Y (λj=>?_) λj=>?_
  ·refine Sr<|q1 Y (Db C4h Y Y (q:=1) Y)<|q1 Y (H2 (es:=[.string x.p2.p5,v]) 0 B8m Y Y Y Y)<|qv TS Y (λw' c=>GV (rA c h) a.2.1)<|p1 Y<|gs 11 Y Y (λz=>?_) λz=>?_
   ·refine fl 0 C5X BK Y<|q1 Y (DO Y Y Y)<|P2 Y Y<|EY 16 Y Y (λk=>?_) λk=>?_
    ·refine fl 0 C5S BK Y<|q1 Y (DO Y Y Y)<|PE 2 Y<|Ct<|Xq<|Xr<|Rb Y Y ?_;show((decide ((x.p6:ByteArray)=⟨#[]⟩)):Bool)=_;unfold BD B6;simp_all
    ·refine PE 5 Y<|Ct<|Xq<|Xr<|Rb Y Y ?_;unfold BD B6;simp_all
   ·refine PE 10 Y<|Ct<|Xq<|Xr<|Rb Y Y ?_;unfold BD B6;simp_all
  ·refine Cq<|Sr<|PE 2 Y<|Ce Y (λd=>?_) λd=>?_
   ·refine Sk<|I4 Y (beq_iff_eq.2 d)<|Sr<|q1 Y (Db C4h Y Y (q:=1) Y)<|fl 0 B6e BK Y<|q1 Y (DO Y Y Y)<|p1 Y<|EY 29 Y Y (λl=>?_) λl=>?_
    ·refine q1 Y (Db C4h Y Y (q:=1) Y)<|fl 0 B6C VN Y<|dl HJ Y (AE b)<|P3 Y Y Y<|oV 36 Y Y (λm=>?_) λm=>?_
     ·refine fl 0 C5X BK Y<|qv A3f Y (λw' c=>GT (by exact a.2.2.1))<|P2 Y Y<|gs 41 Y Y (λa0=>?_) λa0=>?_
      ·refine fl 0 C5S BK Y<|qv A3f Y (λw' c=>GT (by exact a.2.2.2))<|PE 2 Y<|Ct<|Xq<|Xr<|Rb Y Y ?_;show((EP x.p6):Bool)=_;unfold BD B6;simp_all
      ·refine PE 5 Y<|Ct<|Xq<|Xr<|Rb Y Y ?_;unfold BD B6;simp_all
     ·refine PE 10 Y<|Ct<|Xq<|Xr<|Rb Y Y ?_;unfold BD B6;simp_all
    ·refine PE 17 Y<|Ct<|Xq<|Xr<|Rb Y Y ?_;unfold BD B6;simp_all
   ·refine Sr<|PE 2 Y<|Ce Y (λe=>?_) λe=>?_
    ·refine Sk<|I4 Y (beq_iff_eq.2 e)<|Sr<|q1 Y (Db C4h Y Y (q:=1) Y)<|fl 0 B6e BK Y<|q1 Y (DO Y Y Y)<|p1 Y<|EY 29 Y Y (λn=>?_) λn=>?_
     ·refine q1 Y (Db C4h Y Y (q:=1) Y)<|fl 0 B6C VN Y<|dl HJ Y (AE b)<|P3 Y Y Y<|oV 36 Y Y (λo=>?_) λo=>?_
      ·refine fl 0 C5X BK Y<|qv A3f Y (λw' c=>GT (by exact a.2.2.1))<|P2 Y Y<|gs 41 Y Y (λa1=>?_) λa1=>?_
       ·refine fl 0 C5S BK Y<|qv A3f Y (λw' c=>GT (by exact a.2.2.2))<|PE 2 Y<|Ct<|Xq<|Xr<|Rb Y Y ?_;show((EP x.p6):Bool)=_;unfold BD B6;simp_all
       ·refine PE 5 Y<|Ct<|Xq<|Xr<|Rb Y Y ?_;unfold BD B6;simp_all
      ·refine PE 10 Y<|Ct<|Xq<|Xr<|Rb Y Y ?_;unfold BD B6;simp_all
     ·refine PE 17 Y<|Ct<|Xq<|Xr<|Rb Y Y ?_;unfold BD B6;simp_all
    ·refine Cr<|PE 2 Y<|Ce Y (λp=>?_) λp=>?_
     ·refine Sr<|q1 Y (Db C4h Y Y (q:=1) Y)<|fl 0 B6e BK Y<|q1 Y (DO Y Y Y)<|p1 Y<|EY 29 Y Y (λr=>?_) λr=>?_
      ·refine q1 Y (Db C4h Y Y (q:=1) Y)<|fl 0 B6C VN Y<|dl HJ Y (AE b)<|P3 Y Y Y<|oV 36 Y Y (λu=>?_) λu=>?_
       ·refine fl 0 C5X BK Y<|qv A3f Y (λw' c=>GT (by exact a.2.2.1))<|P2 Y Y<|gs 41 Y Y (λa2=>?_) λa2=>?_
        ·refine fl 0 C5S BK Y<|qv A3f Y (λw' c=>GT (by exact a.2.2.2))<|PE 2 Y<|Ct<|Xq<|Xr<|Rb Y Y ?_;show((EP x.p6):Bool)=_;unfold BD B6;simp_all
        ·refine PE 5 Y<|Ct<|Xq<|Xr<|Rb Y Y ?_;unfold BD B6;simp_all
       ·refine PE 10 Y<|Ct<|Xq<|Xr<|Rb Y Y ?_;unfold BD B6;simp_all
      ·refine PE 17 Y<|Ct<|Xq<|Xr<|Rb Y Y ?_;unfold BD B6;simp_all
     ·refine Ck<|Xb<|Xt<|Sr<|Pe Y<|Ct<|Rb Y Y ?_;unfold BD B6;simp_all
theorem NL{w:World}{a:List Value}{x:C1L}(b:Gd.rd w a x)(d:LB x):Cy 182 [(.agg a.toArray)] w (Val w (.bool (IA x))):=by
 obtain⟨e,rfl,c⟩:=A8 b;have f:=rM c;refine enter 10 Tryz.func182 Y Y Y<|Sr (bX Y λi=>?_);refine Pe Y<|Dh [bx i [iv x.s,.string x.p2.p5,e,.string x.t,.string x.p6]] Y<|Sr<|q1 Y (C9 0 C4n Y Y Y)<|qv A3F Y (λw' h=>NK (rA h b) ‹_›)<|p1 Y<|gs 5 Y Y (λg=>?_) λg=>?_
 ·refine fl 0 C4z CJ Y<|PE 3 Y<|Ct<|Rb Y Y ?_;show((decide ((3:Int)<=x.s)):Bool)=_;unfold IA;simp_all
 ·refine PE 5 Y<|Ct<|Rb Y Y ?_;unfold IA;simp_all
theorem V7{w:World}{c:List Value}{a:Action}(d:Gd.rd w c a):Cy 119 [(.agg c.toArray)] w (Val w (.bool (D3 a))):=by
 obtain⟨h,rfl,i⟩:=CH d;have k:=rM i;have b:=A9 d;refine enter 16 Tryz.func119 Y Y Y<|Sr (bX Y λl=>?_);refine Pe Y<|Dh [bx l [iv a.s,.string a.p2.p5,h]] Y<|Cq<|Sr<|fl 0 C5n CJ Y<|Dx<|Cb<|Cq<|Sr<|PE 2 Y<|Ce Y (λe=>?_) λe=>?_
 ·refine Sk<|I4 Y (beq_iff_eq.2 e)<|Sr<|q1 Y (Db C5f Y Y (q:=1) Y)<|q1 Y (H2 (es:=[.string a.p2.p5,h]) 0 B8m Y Y Y Y)<|qv A4g Y (λw' g=>GU<|rA g b)<|Pe Y<|Ct<|Xq<|Xr<|Rb Y Y ?_;show((CK a.p2):Bool)=_;unfold D3 B6;simp_all
 ·refine Cr<|PE 2 Y<|Ce Y (λj=>?_) λj=>?_
  ·refine Sr<|q1 Y (Db C5f Y Y (q:=1) Y)<|q1 Y (H2 (es:=[.string a.p2.p5,h]) 0 B8m Y Y Y Y)<|qv A4g Y (λw' g=>GU<|rA g b)<|Pe Y<|Ct<|Xq<|Xr<|Rb Y Y ?_;show((CK a.p2):Bool)=_;unfold D3 B6;simp_all
  ·refine Sr<|PE 2 Y<|Ce Y (λf=>?_) λf=>?_
   ·refine Sr<|q1 Y (Db C5f Y Y (q:=1) Y)<|q1 Y (H2 (es:=[.string a.p2.p5,h]) 0 B8m Y Y Y Y)<|qv jD Y (λw' g=>G4<|rA g b)<|Pe Y<|Ct<|Xq<|Xr<|Rb Y Y ?_;show((B6 a.p2):Bool)=_;unfold D3 B6;simp_all
   ·refine Ck<|Xb<|Xt<|Sr<|Pe Y<|Ct<|Rb Y Y ?_;unfold D3 B6;simp_all
theorem V8{w:World}{b:List Value}{a:Action}(c:Gd.rd w b a)(d:QB a):Cy 184 [(.agg b.toArray)] w (Val w (.bool (D3 a))):=by
 obtain⟨k,rfl,e⟩:=CH c;have m:=rM e;have f:=A9 c;refine enter 24 Tryz.func184 Y Y Y<|Sr (bX Y λn=>?_);refine Pe Y<|Dh [bx n [iv a.s,.string a.p2.p5,k]] Y<|Cq<|Sr<|fl 0 C5n CJ Y<|Dx<|Cb<|Cq<|Sr<|PE 2 Y<|Ce Y (λg=>?_) λg=>?_
 ·refine Sk<|I4 Y (beq_iff_eq.2 g)<|Sr<|q1 Y (Db C5f Y Y (q:=1) Y)<|q1 Y (H2 (es:=[.string a.p2.p5,k]) 0 B8m Y Y Y Y)<|qv TS Y (λw' l=>GV (rA l f) d.2)<|Pe Y<|Ct<|Xq<|Xr<|Rb Y Y ?_;show((CK a.p2):Bool)=_;unfold D3 B6;simp_all
 ·refine Cr<|PE 2 Y<|Ce Y (λh=>?_) λh=>?_
  ·refine Sr<|q1 Y (Db C5f Y Y (q:=1) Y)<|q1 Y (H2 (es:=[.string a.p2.p5,k]) 0 B8m Y Y Y Y)<|qv TS Y (λw' l=>GV (rA l f) d.2)<|Pe Y<|Ct<|Xq<|Xr<|Rb Y Y ?_;show((CK a.p2):Bool)=_;unfold D3 B6;simp_all
  ·refine Sr<|PE 2 Y<|Ce Y (λi=>?_) λi=>?_
   ·refine Sr<|q1 Y (Db C5f Y Y (q:=1) Y)<|fl 0 B6e BK Y<|q1 Y (DO Y Y Y)<|p1 Y<|EY 17 Y Y (λj=>?_) λj=>?_
    ·refine q1 Y (Db C5f Y Y (q:=1) Y)<|fl 0 B6C VN Y<|dl HJ Y (AE e)<|PE 3 Y<|Ct<|Xq<|Xr<|Rb Y Y ?_;show(((((a.p2.a.length:Nat):Int):Int)==0):Bool)=_;unfold D3 B6;simp_all;rw[Bool.eq_iff_iff];simp
    ·refine PE 7 Y<|Ct<|Xq<|Xr<|Rb Y Y ?_;unfold D3 B6;simp_all
   ·refine Ck<|Xb<|Xt<|Sr<|Pe Y<|Ct<|Rb Y Y ?_;unfold D3 B6;simp_all
theorem JW{w:World}{c:Value}{l:(List ByteArray)}{s:ByteArray}(a:Gd.rd w [c] l):Cy 121 [c,(.string s)] w (Val w (.bool (H1 l s))):=by
 have u:=rM a;refine enter 17 Tryz.func121 Y Y Y<|Sr<|Pe Y<|Cq<|Sr<|p1 Y<|dl HJ Y (AE a)<|Pe Y<|Cb<|Cl (λt f w'=>∃(k:Nat),(k<=l.length)/\(∀i,i<k->l[i]?≠some s)/\t=l.length-k/\Fits f 17 [(1,.string s),(7,c),(8,nv l.length),(9,nv k)]/\St w ([]) w') ?_ ?_
 ·refine λf w' e b=>⟨_,0,?_,?_,Y,e.wk Y,b⟩
  ·omega
  ·intro i q;omega
 ·rintro t f w' ⟨k,x,q,rfl,e,b⟩;refine D.use ?_ e b;clear e b f w';refine Sr<|Pe Y<|Cq<|Cd Y (λg=>?_) λg=>?_
  ·refine Sk<|Cq<|Cb<|Sr ?_;obtain⟨v,d⟩:=sI l k;obtain⟨m,r,o⟩:=AC (n:=1) rfl a d;obtain rfl:m=[.string v]:=o;refine q1 Y (AJ (l:=l) (j:=k) HJ Y Y Y (λw' b=>rA b a) Y<|lS d)<|q1 Y (HI BK Y Y r Y)<|Pe Y<|Sr<|P2 Y Y<|q1 Y (DO Y Y Y)<|Dx<|Cd Y (λp=>?_) λp=>?_
   ·refine Sr<|Pe Y<|Ct<|Xq<|Xr<|Xr<|Xq<|Xr<|Rb Y Y ?_;exact qU d ‹_›
   ·refine Ck<|Xb<|Xt<|Cr<|ad (k+1) Y<|Pe Y λf w' e b=>⟨_,?_,k+1,?_,?_,Y,e.wk Y,b⟩
    ·omega
    ·omega
    ·refine AF q ?_;intro y;simp_all
  ·refine Cx<|Xx<|Xx<|Xe<|Xt<|Sr<|Pe Y<|Ct<|Rb Y Y ?_;exact qV (λi h=>q i (by omega))
theorem GW{w:World}{c:Value}{l:(List ByteArray)}{s:ByteArray}(a:Gd.rd w [c] l):Cy 181 [c,(.string s)] w (Val w (.bool (H1 l s))):=by
 have u:=rM a;refine enter 18 Tryz.func181 Y Y Y<|Sr<|Pe Y<|Cq<|Sr<|Pe Y<|Cb<|Cl (λt f w'=>∃(k:Nat),(k<=l.length)/\(∀i,i<k->l[i]?≠some s)/\t=l.length-k/\Fits f 18 [(0,c),(1,.string s),(5,nv k)]/\St w ([]) w') ?_ ?_
 ·refine λf w' e b=>⟨_,0,?_,?_,Y,e.wk Y,b⟩
  ·omega
  ·intro i q;omega
 ·rintro t f w' ⟨k,x,q,rfl,e,b⟩;refine D.use ?_ e b;clear e b f w';refine Cq<|Sr<|P2 Y Y<|dl HJ Y (AE a)<|Pe Y<|Cd Y (λg=>?_) λg=>?_
  ·refine Sk<|Cq<|Cb<|Sr<|P2 Y Y ?_;obtain⟨v,d⟩:=sI l k;obtain⟨m,r,o⟩:=AC (n:=1) rfl a d;obtain rfl:m=[.string v]:=o;refine q1 Y (AJ (l:=l) (j:=k) HJ Y Y Y (λw' b=>rA b a) Y<|lS d)<|q1 Y (HI BK Y Y r Y)<|p1 Y<|q1 Y (DO Y Y Y)<|Dx<|Cd Y (λp=>?_) λp=>?_
   ·refine Sr<|Pe Y<|Ct<|Xq<|Xr<|Xr<|Xq<|Xr<|Rb Y Y ?_;exact qU d ‹_›
   ·refine Ck<|Xb<|Xt<|Cr<|p1 Y<|ad (k+1) Y<|Pe Y λf w' e b=>⟨_,?_,k+1,?_,?_,Y,e.wk Y,b⟩
    ·omega
    ·omega
    ·refine AF q ?_;intro y;simp_all
  ·refine Cx<|Xx<|Xx<|Xe<|Xt<|Sr<|Pe Y<|Ct<|Rb Y Y ?_;exact qV (λi h=>q i (by omega))
theorem HR{w:World}{m:Value}{l:(List ByteArray)}{s:ByteArray}(c:Gd.rd w [m] l)(a7:l.length<=4294967296):Cy 226 [m,(.string s)] w (HH w (CE l s:List ByteArray)):=by
 have a8:=rM c;refine enter 49 Tryz.func226 Y Y Y<|Sr<|Pe Y<|Sr<|li Y (FL (α:=ByteArray) HJ Y Y Y λv2=>?_);refine Pe Y<|Dh [ov [v2] ([]:(List ByteArray))] Y<|Sr<|Pe Y<|Cq<|Sr<|Pe Y<|Cb<|Cl (λm_ i w'=>∃(k:Nat),∃(z:Bool),∃(v:Value),(k<=l.length)/\(z=LS l s k)/\m_=l.length-k/\Fits i 49 [(0,m),(1,.string s),(5,v),(6,.bool z),(7,nv k)]/\St w ([ov [v] (FE l s k:(List ByteArray))]) w') ?_ ?_
 ·refine A3 0 Y (show([]:(List ByteArray))=FE l s 0 from by rfl) λi w' e a=>⟨_,0,false,v2,?_,?_,Y,e.wk Y,a⟩
  ·omega
  ·rfl
 ·rintro m_ i w' ⟨k,z,v,hk,hd,rfl,e,a⟩;refine D.use ?_ e a;clear e a i w';have af:=mC l s k;refine Cq<|Sr<|P2 Y Y<|dl HJ Y (AE c)<|Pe Y<|Dh [_] Y<|Cd Y (λa2=>?_) λa2=>?_
  ·refine Sk<|Cq<|Cb<|Cq<|Sr<|P3 Y Y Y<|JQ 17 Y Y (λa3=>?_) λa3=>?_
   ·refine P2 Y Y ?_;obtain⟨g,b⟩:=sI l k;obtain⟨a4,f,a5⟩:=AC (n:=1) rfl c b;obtain rfl:a4=[.string g]:=a5;refine q1 Y (AJ (l:=l) (j:=k) HJ Y Y Y (λw' a=>rA a c) Y<|lS b)<|q1 Y (HI BK Y Y f Y)<|p1 Y<|q1 Y (oP Y Y Y)<|Pe Y<|CN Y (λo=>?_) λo=>?_
    ·refine Sr<|Pe Y<|Sr<|P2 Y Y<|q1 Y (AJ (l:=l) (j:=k) HJ Y Y Y (λw' a=>rA a c) Y<|lS b)<|q1 Y (HI BK Y Y f Y)<|p1 Y<|q1 Y (E5 Y Y Y)<|Dx<|AH [0,1,5,6,7,30] Y<|R8 Y (λp=>?_) λp=>?_
     ·refine Cr<|P2 Y Y<|li Y (FF HJ QZ Y (by decide) (by decide) Y Y Y Y Y Y λab=>?_);refine OI s<|AG [2,0,1] Y<|li Y (GZ HJ QZ Y (by decide) Y Y Y Y Y Y (by omega) (by omega) λa6=>?_);refine Pe Y<|Dh [ov [a6] ((FE l s k)++ [s]:(List ByteArray))] Y<|Cr<|P3 Y Y Y<|q1 Y (AJ (l:=l) (j:=k) HJ Y Y Y (λw' a=>rA a c) Y<|lS b)<|q1 Y (HI BK Y Y f Y)<|li Y (FF HJ QZ Y (by decide) (by decide) Y Y Y Y Y Y λag=>?_);refine OI g<|AG [2,0,1] Y<|li Y (GZ HJ QZ Y (by decide) Y Y Y Y Y Y (by simp;omega) (by simp;omega) λq=>?_);refine p1 Y<|De<|Xb<|Xt<|Dh [ov [q] (((FE l s k)++ [s])++ [g]:(List ByteArray))] Y<|Cr<|p1 Y<|ad (k+1) Y<|Pe Y<|A3 0 Y (show(((FE l s k)++ [s])++ [g]:(List ByteArray))=FE l s (k+1) from by exact mB b (by simp_all) (by simp_all) ‹_›) λi w' e a=>⟨_,?_,k+1,true,q,?_,?_,Y,e.wk Y,a⟩
      ·omega
      ·omega
      ·exact S9 b hd (by simp_all)
     ·refine Sk<|Cr<|P3 Y Y Y<|q1 Y (AJ (l:=l) (j:=k) HJ Y Y Y (λw' a=>rA a c) Y<|lS b)<|q1 Y (HI BK Y Y f Y)<|li Y (FF HJ QZ Y (by decide) (by decide) Y Y Y Y Y Y λg16=>?_);refine OI g<|AG [2,0,1] Y<|li Y (GZ HJ QZ Y (by decide) Y Y Y Y Y Y (by omega) (by omega) λa0=>?_);refine p1 Y<|De<|Xb<|Xt<|Dh [ov [a0] ((FE l s k)++ [g]:(List ByteArray))] Y<|Cr<|p1 Y<|ad (k+1) Y<|Pe Y<|A3 0 Y (show((FE l s k)++ [g]:(List ByteArray))=FE l s (k+1) from by exact PG b (by simp_all)) λi w' e a=>⟨_,?_,k+1,true,a0,?_,?_,Y,e.wk Y,a⟩
      ·omega
      ·omega
      ·exact S9 b hd (by simp_all)
    ·refine Sk<|Cr<|P3 Y Y Y<|q1 Y (AJ (l:=l) (j:=k) HJ Y Y Y (λw' a=>rA a c) Y<|lS b)<|q1 Y (HI BK Y Y f Y)<|li Y (FF HJ QZ Y (by decide) (by decide) Y Y Y Y Y Y λg18=>?_);refine OI g<|AG [2,0,1] Y<|li Y (GZ HJ QZ Y (by decide) Y Y Y Y Y Y (by omega) (by omega) λr=>?_);refine p1 Y<|De<|Xb<|Xt<|AH [0,1,5,6,7] Y<|Dh [ov [r] ((FE l s k)++ [g]:(List ByteArray))] Y<|Cr<|p1 Y<|ad (k+1) Y<|Pe Y<|A3 0 Y (show((FE l s k)++ [g]:(List ByteArray))=FE l s (k+1) from by exact PG b (by simp_all)) λi w' e a=>⟨_,?_,k+1,z,r,?_,?_,Y,e.wk Y,a⟩
     ·omega
     ·omega
     ·exact S9 b hd (by simp_all)
   ·refine PE 7 Y<|G7 Y<|Sk<|Cr<|P3 Y Y Y ?_;obtain⟨h,d⟩:=sI l k;obtain⟨t,u,x⟩:=AC (n:=1) rfl c d;obtain rfl:t=[.string h]:=x;refine q1 Y (AJ (l:=l) (j:=k) HJ Y Y Y (λw' a=>rA a c) Y<|lS d)<|q1 Y (HI BK Y Y u Y)<|li Y (FF HJ QZ Y (by decide) (by decide) Y Y Y Y Y Y λa9=>?_);refine OI h<|AG [2,0,1] Y<|li Y (GZ HJ QZ Y (by decide) Y Y Y Y Y Y (by omega) (by omega) λa1=>?_);refine p1 Y<|De<|Xb<|Xt<|AH [0,1,5,6,7] Y<|Dh [ov [a1] ((FE l s k)++ [h]:(List ByteArray))] Y<|Cr<|p1 Y<|ad (k+1) Y<|Pe Y<|A3 0 Y (show((FE l s k)++ [h]:(List ByteArray))=FE l s (k+1) from by exact PG d (by simp_all)) λi w' e a=>⟨_,?_,k+1,z,a1,?_,?_,Y,e.wk Y,a⟩
    ·omega
    ·omega
    ·exact S9 d hd (by simp_all)
  ·refine Cx<|Xx<|Xx<|Xe<|Xt<|Cq<|Sr<|PE 2 Y<|CN Y (λy=>?_) λy=>?_
   ·refine Cr<|P2 Y Y<|li Y (FF HJ QZ Y (by decide) (by decide) Y Y Y Y Y Y λaa=>?_);refine OI s<|AG [2,0,1] Y<|li Y (GZ HJ QZ Y (by decide) Y Y Y Y Y Y (by omega) (by omega) λae=>?_);refine Pe Y<|Sr<|PE 2 Y<|Ct (FV Y Y λw' a=>A7 (k:=0) a Y ?_);show(FE l s k)++ [s]=CE l s;exact fV (by omega) (by simp_all)
   ·refine Sk<|Sr<|PE 2 Y<|Ct (FV Y Y λw' a=>A7 (k:=0) a Y ?_);show FE l s k=CE l s;exact fU (by omega) (by simp_all)
end Go.Sy.Eng1
