/-
  Contracts of functions of the program, walked (printed by a program of ours).
  Conditions: those that each theorem states.
-/
import Derived.Test.YtmjmglkogcomaaaGreatDoorNum2
set_option linter.unusedVariables false
set_option maxRecDepth 20000
namespace Go.Sy.Num3
open Go Go.RowKit Go.Proofs Go.Sy
open Go.Sy.Bel1 Go.Sy.Ev1 Go.Sy.Fmt1 Go.Sy.Eng1 Go.Sy.Eng2 Go.Sy.Eng3 Go.Sy.Num1 Go.Sy.Num2
set_option maxHeartbeats 4000000 in
theorem S1{w:World}{a3:List Value}{e:C1P}{a4:List Value}{f:C1O}(al:Gd.rd w a3 e)(am:Gd.rd w a4 f):Cy 43 [(.agg a3.toArray),(.agg a4.toArray)] w (Val w (.bool (JS e f))):=by
 obtain⟨u1,u3,u5,u7,rfl,v,an,ao,ap⟩:=C6 al;have b3:=rM v;have au:=rM an;have av:=rM ao;have aw:=rM ap;obtain⟨x,rfl,b⟩:=BQ am;have ax:=rM b;refine enter 56 Tryz.func43 Y Y Y<|Sr (bX Y λg16=>?_);refine bX Y λg17=>?_
 refine Pe Y<|Dh [bx g17 [.string f.p7,x],bx g16 [u1,u3,iv e.g,u5,.bool e.p,u7]] Y<|Sr<|fl 1 C5h A3Z Y<|fl 0 C5u BK Y<|qv A7I Y (λw' a=>LD<|rA a v)<|Pe Y<|Cq<|Cq ?_;have b6:=QI e.p8 f.p7;refine Cr<|PE 2 Y<|Cd Y (λa5=>?_) λa5=>?_
 ·refine Sr<|Pe Y<|Ct<|Xr<|Rb Y Y ?_;exact A0r (by omega)
 ·refine Sk<|Sr<|Pe Y<|Cq<|Sr<|fl 1 C5h A3Z Y<|p1 Y ?_;obtain⟨r0,a1⟩:=sI e.p8 ((BN e.p8 f.p7).toNat);obtain⟨ay,a6,a7⟩:=AC (n:=4) rfl v a1;obtain⟨aq,b4,rfl,m,a8⟩:=BC a7;have az:=rM m;have b0:=rM a8;refine q1 Y (AJ (l:=e.p8) (j:=((BN e.p8 f.p7).toNat)) lW Y Y Y (λw' a=>rA a v) (Int.toNat_of_nonneg (by omega)).symm (lS a1))<|q1 Y (B2 C4x Y Y)<|q1 Y (lr C5a Y Y a6 Y)<|dl C5F Y (AE m)<|Pe Y<|AH [2,3,6,23,24,25] Y<|Cb<|Cl (λm_ r w'=>∃(k:Nat),∃(c:Nat),(k<=r0.q.length)/\(c=KZ r0.q k)/\m_=r0.q.length-k/\Fits r 56 [(2,pv g16),(3,pv g17),(6,nv c),(23,aq),(24,nv r0.q.length),(25,nv k)]/\St w ([bx g17 [.string f.p7,x],bx g16 [u1,u3,iv e.g,u5,.bool e.p,u7]]) w') ?_ ?_
  ·refine λr w' d a=>⟨_,0,0,?_,?_,Y,d.wk Y,a⟩
   ·omega
   ·simp[KZ]
  ·rintro m_ r w' ⟨k,c,hk,hc,rfl,d,a⟩;refine D.use ?_ d a;clear d a r w';have b5:=cQ r0.q k;refine Sr<|Pe Y<|Cq<|Cd Y (λa9=>?_) λa9=>?_
   ·refine Sk<|Cq<|Cb<|Sr ?_;obtain⟨o,z⟩:=sI r0.q k;obtain⟨b1,aa,ab⟩:=AC (n:=5) rfl m z;obtain⟨a2,rfl,a0⟩:=A8 ab;have b2:=rM a0;refine q1 Y (AJ (l:=r0.q) (j:=k) C5F Y Y Y (λw' a=>rA a m) Y<|lS z)<|q1 Y (EX C4n Y Y aa) (aL C5Q Y λar=>?_);refine li Y<|AZ (vs:=[iv o.s,.string o.p2.p5,a2,.string o.t,.string o.p6]) (cs':=[iv o.s,.string o.p2.p5,a2,.string o.t,.string o.p6]) 0 C5R Y Y Y Y Y Y (AB Y<|AB Y<|AB (A2 a0)<|AB Y<|AB Y BR) (by simp) Y ?_;refine Dx<|Dh [bx ar [iv o.s,.string o.p2.p5,a2,.string o.t,.string o.p6],_,_] Y<|Sr<|fl 0 C4z CJ Y<|Pe Y<|Ce Y (λae=>?_) λae=>?_
    ·refine Cr<|p1 Y<|ad (c+1) Y<|p1 Y<|De<|Xb<|Xt<|Cr<|ad (k+1) Y<|Pe Y λr w' d a=>⟨_,?_,k+1,c+1,?_,?_,Y,d.wk Y,a.pk [1,2] Y Y⟩
     ·omega
     ·omega
     ·rw[hc];exact jX z (by omega)
    ·refine Ck<|Xb<|Xt<|Cr<|ad (k+1) Y<|Pe Y λr w' d a=>⟨_,?_,k+1,c,?_,?_,Y,d.wk Y,a.pk [1,2] Y Y⟩
     ·omega
     ·omega
     ·rw[hc];exact jY z (by omega)
   ·refine Cx<|Xx<|Xx<|Xe<|Xt<|Cq<|Sr<|fl 0 C5l C2J Y<|dl C1s Y (AE b)<|Pe Y<|Cb<|Cl (λm_ r w'=>∃(j:Nat),(j<=f.q2.length)/\(∀i,i<j->∀t,f.q2[i]?=some t->GO t 1 e.g=true)/\m_=f.q2.length-j/\Fits r 56 [(2,pv g16),(3,pv g17),(6,nv c),(36,x),(37,nv f.q2.length),(38,nv j)]/\St w ([bx g17 [.string f.p7,x],bx g16 [u1,u3,iv e.g,u5,.bool e.p,u7]]) w') ?_ ?_
    ·refine λr w' d a=>⟨_,0,?_,?_,Y,d.wk Y,a⟩
     ·omega
     ·intro i hi;omega
    ·rintro m_ r w' ⟨j,hj,ht,rfl,d,a⟩;refine D.use ?_ d a;clear d a r w';refine Sr<|Pe Y<|Cq<|Cd Y (λaf=>?_) λaf=>?_
     ·refine Sk<|Cq<|Cb<|Sr ?_;obtain⟨t0,u⟩:=sI f.q2 j;obtain⟨ag,ah,ai⟩:=AC (n:=1) rfl b u;obtain rfl:ag=[.int .i64 t0]:=ai;refine q1 Y (AJ (l:=f.q2) (j:=j) C1s Y Y Y (λw' a=>rA a b) Y<|lS u)<|q1 Y (HI CJ Y Y ah Y)<|Pe Y<|Sr<|P3 Y Y Y<|EY 44 Y Y (λaj=>?_) λaj=>?_
      ·refine PE 5 Y<|GF Y<|Sr<|Pe Y<|Ct<|Xq<|Xr<|Xr<|Xq<|Xr<|Rb Y Y ?_;exact sC u (by unfold GO;simp;omega)
      ·refine p1 Y<|fl 1 C5W CJ Y<|PE 2 Y<|Cd Y (λak=>?_) λak=>?_
       ·refine Sr<|Pe Y<|Ct<|Xq<|Xr<|Xr<|Xq<|Xr<|Rb Y Y ?_;exact sC u (by unfold GO;simp;omega)
       ·refine Ck<|Xb<|Xt<|Cr<|ad (j+1) Y<|Pe Y λr w' d a=>⟨_,?_,j+1,?_,?_,Y,d.wk Y,a⟩
        ·omega
        ·omega
        ·refine AF ht ?_;intro y hy;obtain rfl:y=t0:=Option.some.inj (hy.symm.trans u);unfold GO;simp;omega
     ·refine Cx<|Xx<|Xx<|Xe<|Xt<|Sr<|fl 0 C5l C2J Y<|dl C1s Y (AE b)<|PE 3 Y<|Ct<|Rb Y Y ?_;show(((((f.q2.length:Nat):Int):Int)==((c:Nat):Int)):Bool)=_;exact A5c a1 (by omega) (λi h=>ht i (by omega)) (XL hc (by omega) (by omega))
theorem eV{w:World}{g:List Value}{r:C1M}(p:Gd.rd w g r):Cy 87 [(.agg g.toArray)] w (Val w (iv ((gH r:Int)))):=by
 obtain⟨x,z,rfl,b,s⟩:=BC p;have a1:=rM b;have a2:=rM s;refine enter 22 Tryz.func87 Y Y Y<|Sr (bX Y λu=>?_);refine Pe Y<|Dh [bx u [.string r.y,iv r.p3,x,z]] Y<|Sr<|Pe Y<|Cq<|Sr<|Pe Y<|Cb<|Cl (λm_ f w'=>∃(k:Nat),∃(c:Nat),(k<=r.q.length)/\(c=KZ r.q k)/\m_=r.q.length-k/\Fits f 22 [(1,pv u),(3,nv c),(4,nv k)]/\St w ([bx u [.string r.y,iv r.p3,x,z]]) w') ?_ ?_
 ·refine λf w' e a=>⟨_,0,0,?_,?_,Y,e.wk Y,a⟩
  ·omega
  ·simp[KZ]
 ·rintro m_ f w' ⟨k,c,hk,v,rfl,e,a⟩;refine D.use ?_ e a;clear e a f w';have a5:=cQ r.q k;refine Cq<|Sr<|p1 Y<|fl 0 C4x C5a Y<|dl C5F Y (AE b)<|Pe Y<|Cd Y (λt=>?_) λt=>?_
  ·refine Sk<|Cq<|Cb<|Sr<|fl 0 C4x C5a Y<|p1 Y ?_;obtain⟨x0,d⟩:=sI r.q k;obtain⟨a3,h,i⟩:=AC (n:=5) rfl b d;obtain⟨a4,rfl,m⟩:=A8 i;have a0:=rM m;refine q1 Y (AJ (l:=r.q) (j:=k) C5F Y Y Y (λw' a=>rA a b) Y<|lS d)<|q1 Y (B2 C4z Y Y)<|q1 Y (lr CJ Y Y h Y)<|Pe Y<|Ce Y (λo=>?_) λo=>?_
   ·refine Cr<|p1 Y<|ad (c+1) Y<|p1 Y<|De<|Xb<|Xt<|Cr<|p1 Y<|ad (k+1) Y<|Pe Y λf w' e a=>⟨_,?_,k+1,c+1,?_,?_,Y,e.wk Y,a⟩
    ·omega
    ·omega
    ·rw[v];exact jX d (by omega)
   ·refine Ck<|Xb<|Xt<|Cr<|p1 Y<|ad (k+1) Y<|Pe Y λf w' e a=>⟨_,?_,k+1,c,?_,?_,Y,e.wk Y,a⟩
    ·omega
    ·omega
    ·rw[v];exact jY d (by omega)
  ·refine Cx<|Xx<|Xx<|Xe<|Xt<|Sr<|PE 2 Y<|Ct<|Ri Y Y ?_;show(((c:Nat):Int):Int)=_;rw[XL v (by omega) (by omega)]
theorem VE{w:World}{o:List Value}{e:C1P}{r:List Value}{x:C1O}(a7:Gd.rd w o e)(a8:Gd.rd w r x):Cy 137 [(.agg o.toArray),(.agg r.toArray)] w (Val w (.bool (JS e x))):=by
 obtain⟨u1,u3,u5,u7,rfl,c,a9,aa,ab⟩:=C6 a7;have al:=rM c;have ae:=rM a9;have af:=rM aa;have ag:=rM ab;obtain⟨s,rfl,a⟩:=BQ a8;have ah:=rM a;refine enter 42 Tryz.func137 Y Y Y<|Sr (bX Y λg16=>?_);refine bX Y λg17=>?_
 refine Pe Y<|Dh [bx g17 [.string x.p7,s],bx g16 [u1,u3,iv e.g,u5,.bool e.p,u7]] Y<|Sr<|fl 1 C5h A3Z Y<|fl 0 C5u BK Y<|qv A0N Y (λw' b=>LE<|rA b c)<|Pe Y<|Cq<|Cq ?_;have ao:=QI e.p8 x.p7;refine A0 mixed [] (by kernel_rfl)<|tK 11 [0,1,2] Y<|EY 14 Y Y (λu=>?_) λu=>?_
 ·refine tK 0 [3,4,5,6,7,8,9,10,11,12,13] Y<|tE<|Xt<|AH [2,3,25] Y<|GF Y<|Sr<|Pe Y<|Ct<|Xr<|Rb Y Y ?_;exact A0r (by omega)
 ·refine Tk 3 Y Y (Db C5l Y Y (q:=1) Y)<|Tk 4 Y Y (lb 0 C2J Y Y Y Y)<|Tk 5 Y Y (Dl C1s Y Y<|AE a)<|Tk 6 Y Y (Db C5h Y Y (q:=0) Y)<|Tk 7 Y Y (lb 1 A3Z Y Y Y Y)<|tR 8 Y Y ?_;obtain⟨r0,d⟩:=sI e.p8 ((BN e.p8 x.p7).toNat);obtain⟨ai,v,k⟩:=AC (n:=4) rfl c d;obtain⟨am,an,rfl,z,a0⟩:=BC k;have aj:=rM z;have ak:=rM a0;refine Tk 9 Y Y (AJ (l:=e.p8) (j:=((BN e.p8 x.p7).toNat)) lW Y Y Y (λw' b=>rA b c) (Int.toNat_of_nonneg (by omega)).symm (lS d))<|Tk 10 Y Y (EX C5D Y Y v)<|ty 11 Y Y<|cv wD Y Y Y Y (λw' b=>eV<|rA b k) ?_;refine tS (λ_ b=>b)<|tK 0 [12,13] Y<|tE<|Xt<|AH [2,3,25] Y<|Cn Y (λa1=>?_) λa1=>?_
  ·refine Sr<|Pe Y<|Ct<|Xr<|Rb Y Y ?_;exact A5b d (by omega)
  ·refine Sk<|Cq<|Sr<|Pe Y<|Cb<|Cl (λm_ ac w'=>∃(j:Nat),(j<=x.q2.length)/\(∀i,i<j->∀t,x.q2[i]?=some t->GO t 1 e.g=true)/\m_=x.q2.length-j/\Fits ac 42 [(2,pv g16),(3,pv g17),(6,nv j)]/\St w ([bx g17 [.string x.p7,s],bx g16 [u1,u3,iv e.g,u5,.bool e.p,u7]]) w') ?_ ?_
   ·refine λac w' m b=>⟨_,0,?_,?_,Y,m.wk Y,b⟩
    ·omega
    ·intro i hi;omega
   ·rintro m_ ac w' ⟨j,hj,ht,rfl,m,b⟩;refine D.use ?_ m b;clear m b ac w';refine Cq<|Sr<|p1 Y<|fl 0 C5l C2J Y<|dl C1s Y (AE a)<|Pe Y<|Cd Y (λa2=>?_) λa2=>?_
    ·refine Sk<|Cq<|Cb<|Cq<|A0 mixed [7,8] (by kernel_rfl)<|Tk 0 Y Y (Db C5l Y Y (q:=1) Y)<|Tk 1 Y Y (lb 0 C2J Y Y Y Y)<|tR 2 Y Y ?_;obtain⟨t0,f⟩:=sI x.q2 j;obtain⟨a3,a4,a5⟩:=AC (n:=1) rfl a f;obtain rfl:a3=[.int .i64 t0]:=a5;refine Tk 3 Y Y (AJ (l:=x.q2) (j:=j) C1s Y Y Y (λw' b=>rA b a) Y<|lS f)<|Tk 4 Y Y (HI CJ Y Y a4 Y)<|Tk 5 Y Y (Db C5W Y Y (q:=2) Y)<|Tk 6 Y Y (lb 1 CJ Y Y Y Y)<|ty 7 Y Y<|cv B3Y Y Y Y Y (λw' b=>E7) ?_;refine tZ Y<|tW 8 Y Y Y<|tE<|Xt<|CN Y (λa6=>?_) λa6=>?_
     ·refine Sr<|Pe Y<|Ct<|Xq<|Xr<|Xr<|Xq<|Xr<|Rb Y Y ?_;exact sC f ‹_›
     ·refine Ck<|Xb<|Xt<|Cr<|p1 Y<|ad (j+1) Y<|Pe Y λac w' m b=>⟨_,?_,j+1,?_,?_,Y,m.wk Y,b⟩
      ·omega
      ·omega
      ·refine AF ht ?_;intro y hy;obtain rfl:y=t0:=Option.some.inj (hy.symm.trans f);assumption
    ·refine Cx<|Xx<|Xx<|Xe<|Xt<|Sr<|Pe Y<|Ct<|Rb Y Y ?_;exact A7e d (by omega) (λi h=>ht i (by omega)) (by omega)
theorem O2{w:World}{m:Value}{l:(List C1O)}{r:List Value}{x:C3z}(c:Gd.rd w [m] l)(a0:Gd.rd w r x):Cy 138 [m,(.agg r.toArray)] w (Val w (.bool (MG l x.v.p7 x.q2))):=by
 have a7:=rM c;obtain⟨u2,u4,u6,rfl,a1,a2,s⟩:=BF a0;have a8:=rM a1;have a9:=rM a2;have a4:=rM s;refine enter 31 Tryz.func138 Y Y Y<|Sr (bX Y λo=>?_);refine Pe Y<|Dh [bx o [.string x.v.p7,u2,u4,iv x.p3,u6,iv x.p9,iv x.p0]] Y<|Cq<|Sr<|Pe Y<|Cb<|Cl (λm_ p w'=>∃(k:Nat),(k<=l.length)/\(∀i,i<k->∀f,l[i]?=some f->¬(f.p7=x.v.p7/\f.q2=x.q2))/\m_=l.length-k/\Fits p 31 [(0,m),(3,pv o),(5,nv k)]/\St w ([bx o [.string x.v.p7,u2,u4,iv x.p3,u6,iv x.p9,iv x.p0]]) w') ?_ ?_
 ·refine λp w' g a=>⟨_,0,?_,?_,Y,g.wk Y,a⟩
  ·omega
  ·intro i hi;omega
 ·rintro m_ p w' ⟨k,hk,hi,rfl,g,a⟩;refine D.use ?_ g a;clear g a p w';refine Cq<|Sr<|P2 Y Y<|dl C5k Y (AE c)<|Pe Y<|Cd Y (λt=>?_) λt=>?_
  ·refine Sk<|Cq<|Cb<|Cq<|A0 mixed [17,18] (by kernel_rfl)<|tK 17 [0,1] Y ?_;obtain⟨f0,b⟩:=sI l k;obtain⟨a5,d,u⟩:=AC (n:=2) rfl c b;obtain⟨aa,rfl,e⟩:=BQ u;have a6:=rM e;refine Tk 2 Y Y (AJ (l:=l) (j:=k) C5k Y Y Y (λw' a=>rA a c) Y<|lS b)<|Tk 3 Y Y (B2 C5u Y Y)<|Tk 4 Y Y (lr BK Y Y d Y)<|Tk 5 Y Y (Db C1t Y Y (q:=0) Y)<|Tk 6 Y Y (Db C5r Y Y (q:=0) Y)<|Tk 7 Y Y (lb 0 BK Y Y Y Y)<|Tk 8 Y Y (DO Y Y Y)<|tR 9 Y Y<|EY 21 Y Y (λz=>?_) λz=>?_
   ·refine tK 7 [10,11] Y<|Tk 12 Y Y (AJ (l:=l) (j:=k) C5k Y Y Y (λw' a=>rA a c) Y<|lS b)<|Tk 13 Y Y (B2 C5l Y Y)<|Tk 14 Y Y (lr C2J Y Y d Y)<|Tk 15 Y Y (Db C1q Y Y (q:=4) Y)<|Tk 16 Y Y (lb 0 C2J Y Y Y Y)<|ty 17 Y Y<|cv B3y Y Y Y Y (λw' a=>MP (rA a e)<|rA a s) ?_;refine tZ Y<|tW 18 Y Y Y<|tE<|Xt<|AH [0,3,5,30] Y<|Ci _ Y (λa3=>?_) λa3=>?_
    ·refine Sr<|Pe Y<|Ct<|Xq<|Xr<|Xr<|Xq<|Xr<|Rb Y Y ?_;exact gI b ‹_› (by simp_all)
    ·refine Ck<|Xb<|Xt<|Cr<|p1 Y<|ad (k+1) Y<|Pe Y λp w' g a=>⟨_,?_,k+1,?_,?_,Y,g.wk Y,a⟩
     ·omega
     ·omega
     ·refine AF hi ?_;intro y hy;obtain rfl:y=f0:=Option.some.inj (hy.symm.trans b);simp_all
   ·refine tK 1 [10,11,12,13,14,15,16,17] Y<|tW 18 Y Y Y<|tE<|Xt<|AH [0,3,5,30] Y<|G7 Y<|Ck<|Xb<|Xt<|Cr<|p1 Y<|ad (k+1) Y<|Pe Y λp w' g a=>⟨_,?_,k+1,?_,?_,Y,g.wk Y,a⟩
    ·omega
    ·omega
    ·refine AF hi ?_;intro y hy;obtain rfl:y=f0:=Option.some.inj (hy.symm.trans b);simp_all
  ·refine Cx<|Xx<|Xx<|Xe<|Xt<|Sr<|Pe Y<|Ct<|Rb Y Y ?_;exact gJ (λi h=>hi i (by omega))
set_option maxHeartbeats 4000000 in
theorem WL{w:World}{ae:List Value}{e:C1P}(af:Gd.rd w ae e)(hn:DI e<=1048576)(b4:Tb w):Cy 11 [(.agg ae.toArray)] w (Val w (.bool (HT e))):=by
 obtain⟨u1,u3,u5,u7,rfl,ag,r,f,t⟩:=C6 af;have bj:=rM ag;have b8:=rM r;have b9:=rM f;have ba:=rM t;unfold DI at hn;refine enter 91 Tryz.func11 Y Y Y<|Sr (bX Y λd=>?_);refine Pe Y<|Dh [bx d [u1,u3,iv e.g,u5,.bool e.p,u7]] Y<|Cq<|Sr<|fl 0 C5h A3Z Y<|qv A6f Y (λw' a=>OS (rA a ag) (by omega))<|P2 Y Y<|JQ 14 Y Y (λah=>?_) λah=>?_
 ·refine n1 Y<|n1 Y<|n1 Y<|n1 Y<|P2 Y Y<|n1 Y<|n1 Y<|n1 Y<|P2 Y Y<|n1 Y<|n1 Y<|n1 Y<|P2 Y Y<|n1 Y<|n1 Y<|n1 Y<|n1 Y<|P2 Y Y<|n1 Y<|n1 Y<|n1 Y<|n1 Y<|p1 Y<|De ?_;refine Xt<|AH [1,41] Y<|GF Y<|Sr<|Pe Y<|Ct<|Xr<|Rb Y Y ?_;exact NO (.inl ‹_›)
 ·refine fl 0 C4l A3a Y<|qv B2x Y (λw' a=>OW (rA a r) (by omega)<|Tb.ext b4 a.bel)<|P3 Y Y Y<|JQ 20 Y Y (λai=>?_) λai=>?_
  ·refine PE 21 Y<|AH [1,41] Y<|GF Y<|Sr ?_;refine Pe Y<|Ct<|Xr<|Rb Y Y ?_;exact NO (.inr (.inl ‹_›))
  ·refine fl 0 C5W CJ Y<|P3 Y Y Y<|EY 25 Y Y (λaj=>?_) λaj=>?_
   ·refine PE 16 Y<|AH [1,41] Y<|GF Y<|Sr<|Pe Y<|Ct ?_;refine Xr<|Rb Y Y ?_;exact NO (.inr (.inr (.inl (by unfold GO;simp;omega))))
   ·refine fl 0 C5W CJ Y<|P3 Y Y Y<|EY 30 Y Y (λak=>?_) λak=>?_
    ·refine PE 11 Y<|AH [1,41] Y<|GF Y<|Sr<|Pe Y<|Ct<|Xr<|Rb Y Y ?_;exact NO (.inr (.inr (.inl (by unfold GO;simp;omega))))
    ·refine fl 0 C5G C6A Y<|dl C5k Y (AE f)<|P3 Y Y Y<|EY 36 Y Y (λal=>?_) λal=>?_
     ·refine PE 5 Y<|AH [1,41] Y<|GF Y<|Sr<|Pe Y<|Ct<|Xr<|Rb Y Y ?_;exact NO (.inr (.inr (.inr (.inl (by omega)))))
     ·refine fl 0 C4O C5U Y<|dl C4v Y (AE t)<|PE 2 Y<|AH [1,41] Y<|Cd Y (λam=>?_) λam=>?_
      ·refine Sr<|Pe Y<|Ct<|Xr<|Rb Y Y ?_;exact NO (.inr (.inr (.inr (.inr (by omega)))))
      ·refine Sk<|Cq<|Sr<|fl 0 C4l A3a Y<|dl lZ Y (AE r)<|Pe Y<|Cb<|Cl (λz c w'=>∃(k:Nat),(k<=e.w.length)/\(∀i,i<k->∀s,e.w[i]?=some s->s.q1<=e.g)/\z=e.w.length-k/\Fits c 91 [(1,pv d),(43,u3),(44,nv e.w.length),(45,nv k)]/\St w ([bx d [u1,u3,iv e.g,u5,.bool e.p,u7]]) w') ?_ ?_
       ·refine λc w' b a=>⟨_,0,?_,?_,Y,b.wk Y,a⟩
        ·omega
        ·intro i hi;omega
       ·rintro z c w' ⟨k,hk,hm,rfl,b,a⟩;refine D.use ?_ b a;clear b a c w';refine Sr<|Pe Y<|Cq<|Cd Y (λan=>?_) λan=>?_
        ·refine Sk<|Cq<|Cb<|Sr ?_;obtain⟨s0,a0⟩:=sI e.w k;obtain⟨bb,ao,ap⟩:=AC (n:=3) rfl r a0;obtain⟨a9,rfl,a4⟩:=B9 ap;have bc:=rM a4;refine q1 Y (AJ (l:=e.w) (j:=k) lZ Y Y Y (λw' a=>rA a r) Y<|lS a0)<|q1 Y (EX I7 Y Y ao) (aL lT Y λb5=>?_);refine li Y<|AZ (vs:=[.string s0.j.p5,a9,iv s0.q1]) (cs':=[.string s0.j.p5,a9,iv s0.q1]) 0 pE Y Y Y Y Y Y (AB Y<|AB (A2 a4)<|AB Y BR) (by simp) Y ?_;refine Dx<|Dh [bx b5 [.string s0.j.p5,a9,iv s0.q1],_] Y<|Sr<|fl 0 L4 CJ Y<|fl 1 C5W CJ Y<|Pe Y<|Cd Y (λaq=>?_) λaq=>?_
         ·refine Sr<|Pe Y<|Ct<|Xq<|Xr<|Xr<|Xq<|Xr<|Rb Y Y ?_;exact A0s a0 (by omega)
         ·refine Ck<|Xb<|Xt<|Cr<|ad (k+1) Y<|Pe Y λc w' b a=>⟨_,?_,k+1,?_,?_,Y,b.wk Y,a.pk [1] Y Y⟩
          ·omega
          ·omega
          ·refine AF hm ?_;intro y hy;obtain rfl:y=s0:=Option.some.inj (hy.symm.trans a0);omega
        ·refine Cx<|Xx<|Xx<|Xe<|Xt<|Cq<|Sr<|fl 0 C5G C6A Y<|dl C5k Y (AE f)<|Pe Y<|Cb<|Cl (λz c w'=>∃(j:Nat),(j<=e.m.length)/\(∀i,i<j->KD e i=true)/\z=e.m.length-j/\Fits c 91 [(1,pv d),(56,u5),(57,nv e.m.length),(58,nv j)]/\St w ([bx d [u1,u3,iv e.g,u5,.bool e.p,u7]]) w') ?_ ?_
         ·refine λc w' b a=>⟨_,0,?_,?_,Y,b.wk Y,a⟩
          ·omega
          ·intro i hi;omega
         ·rintro z c w' ⟨j,hj,b3,rfl,b,a⟩;refine D.use ?_ b a;clear b a c w';refine Sr<|Pe Y<|Cq<|Cd Y (λar=>?_) λar=>?_
          ·refine Sk<|Cq<|Cb<|Sr<|p1 Y ?_;obtain⟨f0,o⟩:=sI e.m j;obtain⟨bd,au,x⟩:=AC (n:=2) rfl f o;obtain⟨a1,rfl,a5⟩:=BQ x;have be:=rM a5;refine q1 Y (AJ (l:=e.m) (j:=j) C5k Y Y Y (λw' a=>rA a f) Y<|lS o)<|q1 Y (EX C7F Y Y au) (aL C6l Y λaa=>?_);refine p1 Y<|li Y<|AZ (vs:=[.string f0.p7,a1]) (cs':=[.string f0.p7,a1]) 0 C8L Y Y Y Y Y Y (AB Y<|AB (A2 a5) BR) (by simp) Y ?_;refine Dx<|Dh [bx aa [.string f0.p7,a1],_] Y<|Cq<|Sr<|q1 Y (C9 1 C4u Y Y Y)<|q1 Y (C9 0 C7F Y Y Y)<|qv A7C Y (λw' a=>S1 (rA a af)<|rA a x)<|Pe Y<|CN Y (λav=>?_) λav=>?_
           ·refine Sr<|Pe Y<|Ct<|Xr<|Xq<|Xr<|Xr<|Xq<|Xr<|Rb Y Y ?_;exact kA (lS o) (cT o ‹_›)
           ·refine Sk<|Sr<|Pe Y<|Cb<|Cl (λz c w'=>∃(q:Nat),(q<=j)/\(∀i,i<q->∀g,e.m[i]?=some g->g≠f0)/\z=j-q/\Fits c 91 [(1,pv d),(5,nv j),(6,pv aa),(7,nv q),(56,u5),(57,nv e.m.length),(58,nv j)]/\St w ([bx aa [.string f0.p7,a1],bx d [u1,u3,iv e.g,u5,.bool e.p,u7]]) w') ?_ ?_
            ·refine λc w' b a=>⟨_,0,?_,?_,Y,b.wk Y,a⟩
             ·omega
             ·intro i hi;omega
            ·rintro z c w' ⟨q,hq,b2,rfl,b,a⟩;refine D.use ?_ b a;clear b a c w';refine Cq<|Sr<|PE 3 Y<|Cd Y (λaw=>?_) λaw=>?_
             ·refine Sk<|Cq<|Cb<|Cq<|A0 mixed [6] (by kernel_rfl)<|Tk 0 Y Y (Db C5G Y Y (q:=3) Y)<|Tk 1 Y Y (lb 1 C6A Y Y Y Y)<|tR 2 Y Y ?_;obtain⟨g0,a2⟩:=sI e.m q;obtain⟨bf,ax,a6⟩:=AC (n:=2) rfl f a2;obtain⟨bk,rfl,ay⟩:=BQ a6;have bg:=rM ay;refine Tk 3 Y Y (AJ (l:=e.m) (j:=q) C5k Y Y Y (λw' a=>rA a f) Y<|lS a2)<|Tk 4 Y Y (EX C7F Y Y ax)<|Tk 5 Y Y (C9 0 C7F Y Y Y)<|ty 6 Y Y<|cv A7D Y Y Y Y (λw' a=>MQ (rA a a6)<|rA a x) ?_;refine tZ Y<|tE<|Xt<|Ci _ Y (λb6=>?_) λb6=>?_
              ·refine Sr<|Pe Y<|Ct<|Xq<|Xr<|Xr<|Xq<|Xq<|Xr<|Xr<|Xq<|Xr<|Rb Y Y ?_;exact kA (lS o) (sE o a2 (by omega) (by simp_all))
              ·refine Ck<|Xb<|Xt<|Cr<|p1 Y<|ad (q+1) Y<|Pe Y λc w' b a=>⟨_,?_,q+1,?_,?_,Y,b.wk Y,a⟩
               ·omega
               ·omega
               ·refine AF b2 ?_;intro y hy;obtain rfl:y=g0:=Option.some.inj (hy.symm.trans a2);simp_all
             ·refine Cx<|Xx<|Xx<|Xe<|Xb<|Xt<|Cr<|ad (j+1) Y<|Pe Y λc w' b a=>⟨_,?_,j+1,?_,?_,Y,b.wk Y,a.pk [1] Y Y⟩
              ·omega
              ·omega
              ·refine AF b3 ?_;exact xN o ‹_› (λi h=>b2 i (by omega))
          ·refine Cx<|Xx<|Xx<|Xe<|Xt<|Cq<|Sr<|fl 0 C4O C5U Y<|dl C4v Y (AE t)<|Pe Y<|Cb<|Cl (λz c w'=>∃(p:Nat),(p<=e.u.length)/\(∀i,i<p->∀v,e.u[i]?=some v->AN v=true)/\z=e.u.length-p/\Fits c 91 [(81,u7),(82,nv e.u.length),(83,nv p)]/\St w ([bx d [u1,u3,iv e.g,u5,.bool e.p,u7]]) w') ?_ ?_
           ·refine λc w' b a=>⟨_,0,?_,?_,Y,b.wk Y,a⟩
            ·omega
            ·intro i hi;omega
           ·rintro z c w' ⟨p,hp,hv,rfl,b,a⟩;refine D.use ?_ b a;clear b a c w';refine Sr<|Pe Y<|Cq<|Cd Y (λaz=>?_) λaz=>?_
            ·refine Sk<|Cq<|Cb<|Sr ?_;obtain⟨v0,a3⟩:=sI e.u p;obtain⟨bh,b0,a7⟩:=AC (n:=4) rfl t a3;obtain⟨ab,rfl,a8⟩:=D2 a7;have bi:=rM a8;refine q1 Y (AJ (l:=e.u) (j:=p) C4v Y Y Y (λw' a=>rA a t) Y<|lS a3)<|q1 Y (EX C2U Y Y b0) (aL C2V Y λb7=>?_);refine li Y<|AZ (vs:=[iv v0.s,.string v0.p7,.string v0.j.p5,ab]) (cs':=[iv v0.s,.string v0.p7,.string v0.j.p5,ab]) 0 C3h Y Y Y Y Y Y (AB Y<|AB Y<|AB Y<|AB (A2 a8) BR) (by simp) Y ?_;refine Dx<|Dh [bx b7 [iv v0.s,.string v0.p7,.string v0.j.p5,ab],_] Y<|Sr<|q1 Y (C9 0 C2U Y Y Y)<|qv A4E Y (λw' a=>YV<|rA a a7)<|Pe Y<|CN Y (λb1=>?_) λb1=>?_
             ·refine Sr<|Pe Y<|Ct<|Xq<|Xr<|Xr<|Xq<|Xr<|Rb Y Y ?_;exact A0t a3 ‹_›
             ·refine Ck<|Xb<|Xt<|Cr<|ad (p+1) Y<|Pe Y λc w' b a=>⟨_,?_,p+1,?_,?_,Y,b.wk Y,a.pk [1] Y Y⟩
              ·omega
              ·omega
              ·refine AF hv ?_;intro y hy;obtain rfl:y=v0:=Option.some.inj (hy.symm.trans a3);assumption
            ·refine Cx<|Xx<|Xx<|Xe<|Xt<|Sr<|Pe Y<|Ct<|Rb Y Y ?_;exact A5d ‹_› ‹_› (by unfold GO;simp;omega) (by omega) (by omega) (λi h=>hm i (by omega)) (λi h=>b3 i (by omega)) (λi h=>hv i (by omega))
set_option maxHeartbeats 4000000 in
theorem WM{w:World}{a5:List Value}{e:C1P}(a6:Gd.rd w a5 e)(hn:DI e<=1048576)(ho:QC e):Cy 100 [(.agg a5.toArray)] w (Val w (.bool (HT e))):=by
 obtain⟨u1,u3,u5,u7,rfl,a7,r,c,t⟩:=C6 a6;have b5:=rM a7;have aw:=rM r;have ax:=rM c;have ay:=rM t;unfold DI at hn;refine enter 100 Tryz.func100 Y Y Y<|Sr (bX Y λo=>?_);refine Pe Y<|Dh [bx o [u1,u3,iv e.g,u5,.bool e.p,u7]] Y<|Cq<|Sr<|fl 0 C5h A3Z Y<|qv A4f Y (λw' a=>LF (rA a a7) (by omega) ho.1)<|P2 Y Y<|JQ 10 Y Y (λa8=>?_) λa8=>?_
 ·refine PE 23 Y<|AH [1,33] Y<|GF Y ?_;refine Sr<|Pe Y<|Ct<|Xr<|Rb Y Y ?_;exact NO (.inl ‹_›)
 ·refine fl 0 C4l A3a Y<|qv A4y Y (λw' a=>OX (rA a r) (by omega) ho.2.1)<|P3 Y Y Y<|JQ 16 Y Y (λa9=>?_) λa9=>?_
  ·refine PE 17 Y<|AH [1,33] Y<|GF Y<|Sr<|Pe Y ?_;refine Ct<|Xr<|Rb Y Y ?_;exact NO (.inr (.inl ‹_›))
  ·refine fl 0 C5W CJ Y<|qv B3Y Y (λw' a=>E7)<|P3 Y Y Y<|JQ 22 Y Y (λaa=>?_) λaa=>?_
   ·refine PE 11 Y<|AH [1,33] Y<|GF Y<|Sr<|Pe Y<|Ct<|Xr<|Rb Y Y ?_;exact NO (.inr (.inr (.inl ‹_›)))
   ·refine fl 0 C5G C6A Y<|dl C5k Y (AE c)<|P3 Y Y Y<|EY 28 Y Y (λab=>?_) λab=>?_
    ·refine PE 5 Y<|AH [1,33] Y<|GF Y<|Sr<|Pe Y<|Ct<|Xr<|Rb Y Y ?_;exact NO (.inr (.inr (.inr (.inl (by omega)))))
    ·refine fl 0 C4O C5U Y<|dl C4v Y (AE t)<|PE 2 Y<|AH [1,33] Y<|Cd Y (λae=>?_) λae=>?_
     ·refine Sr<|Pe Y<|Ct<|Xr<|Rb Y Y ?_;exact NO (.inr (.inr (.inr (.inr (by omega)))))
     ·refine Sk<|Cq<|Sr<|Pe Y<|Cb<|Cl (λm_ f w'=>∃(k:Nat),(k<=e.w.length)/\(∀i,i<k->∀s,e.w[i]?=some s->s.q1<=e.g)/\m_=e.w.length-k/\Fits f 100 [(1,pv o),(3,nv k)]/\St w ([bx o [u1,u3,iv e.g,u5,.bool e.p,u7]]) w') ?_ ?_
      ·refine λf w' b a=>⟨_,0,?_,?_,Y,b.wk Y,a⟩
       ·omega
       ·intro i hi;omega
      ·rintro m_ f w' ⟨k,hk,hm,rfl,b,a⟩;refine D.use ?_ b a;clear b a f w';refine Cq<|Sr<|p1 Y<|fl 0 C4l A3a Y<|dl lZ Y (AE r)<|Pe Y<|Cd Y (λaf=>?_) λaf=>?_
       ·refine Sk<|Cq<|Cb<|Cq<|A0 mixed [] (by kernel_rfl)<|Tk 0 Y Y (Db C4l Y Y (q:=1) Y)<|Tk 1 Y Y (lb 0 A3a Y Y Y Y)<|tR 2 Y Y ?_;obtain⟨s0,a1⟩:=sI e.w k;obtain⟨az,ag,ah⟩:=AC (n:=3) rfl r a1;obtain⟨b6,rfl,ai⟩:=B9 ah;have b0:=rM ai;refine Tk 3 Y Y (AJ (l:=e.w) (j:=k) lZ Y Y Y (λw' a=>rA a r) Y<|lS a1)<|Tk 4 Y Y (B2 L4 Y Y)<|Tk 5 Y Y (lr CJ Y Y ag Y)<|Tk 6 Y Y (Db C5W Y Y (q:=2) Y)<|Tk 7 Y Y (lb 0 CJ Y Y Y Y)<|tR 8 Y Y<|tE<|Xt<|Cd Y (λaj=>?_) λaj=>?_
        ·refine Sr<|Pe Y<|Ct<|Xq<|Xr<|Xr<|Xq<|Xr<|Rb Y Y ?_;exact A0s a1 (by omega)
        ·refine Ck<|Xb<|Xt<|Cr<|p1 Y<|ad (k+1) Y<|Pe Y λf w' b a=>⟨_,?_,k+1,?_,?_,Y,b.wk Y,a⟩
         ·omega
         ·omega
         ·refine AF hm ?_;intro y hy;obtain rfl:y=s0:=Option.some.inj (hy.symm.trans a1);omega
       ·refine Cx<|Xx<|Xx<|Xe<|Xt<|Cq<|Sr<|Pe Y<|Cb<|Cl (λm_ f w'=>∃(j:Nat),(j<=e.m.length)/\(∀i,i<j->KD e i=true)/\m_=e.m.length-j/\Fits f 100 [(1,pv o),(4,nv j)]/\St w ([bx o [u1,u3,iv e.g,u5,.bool e.p,u7]]) w') ?_ ?_
        ·refine λf w' b a=>⟨_,0,?_,?_,Y,b.wk Y,a⟩
         ·omega
         ·intro i hi;omega
        ·rintro m_ f w' ⟨j,hj,au,rfl,b,a⟩;refine D.use ?_ b a;clear b a f w';refine Cq<|Sr<|p1 Y<|fl 0 C5G C6A Y<|dl C5k Y (AE c)<|Pe Y<|Cd Y (λak=>?_) λak=>?_
         ·refine Sk<|Cq<|Cb<|Cq<|A0 mixed [6,7,8,27,28] (by kernel_rfl)<|Tk 0 Y Y (C9 0 C4u Y Y Y)<|Tk 1 Y Y (Db C5G Y Y (q:=3) Y)<|Tk 2 Y Y (lb 0 C6A Y Y Y Y)<|tR 3 Y Y ?_;obtain⟨f0,d⟩:=sI e.m j;obtain⟨b1,x,a3⟩:=AC (n:=2) rfl c d;obtain⟨a2,rfl,z⟩:=BQ a3;have b2:=rM z;refine Tk 4 Y Y (AJ (l:=e.m) (j:=j) C5k Y Y Y (λw' a=>rA a c) Y<|lS d)<|Tk 5 Y Y (EX C7F Y Y x)<|ty 6 Y Y<|cv A0M Y Y Y Y (λw' a=>VE (rA a a6)<|rA a a3) ?_;refine tZ Y<|tW 7 Y Y Y<|tW 8 Y Y Y<|JQ 65 Y Y (λal=>?_) λal=>?_
          ·refine tK 1 [9,10,11,12,13,14,15,16,17,18,19,20,21,22,23,24,25,26,27] Y<|tW 28 Y Y Y<|tE<|Xt<|AH [1,4,85] Y<|GF Y ?_;refine Sr<|Pe Y<|Ct<|Xq<|Xr<|Xr<|Xq<|Xr<|Rb Y Y ?_;exact kA (lS d) (cT d ‹_›)
          ·refine Tk 9 Y Y (Db C5G Y Y (q:=3) Y)<|Tk 10 Y Y (lb 0 C6A Y Y Y Y)<|tR 11 Y Y ?_;have am:=hU (m:=j) c (by omega);refine Tk 12 Y Y (oK (l:=e.m) (m:=j) C5k Y Y Y Y (λw' a=>rA a c) (by omega))<|Tk 13 Y Y (Db C5G Y Y (q:=3) Y)<|Tk 14 Y Y (lb 0 C6A Y Y Y Y)<|tR 15 Y Y<|Tk 16 Y Y (AJ (l:=e.m) (j:=j) C5k Y Y Y (λw' a=>rA a c) Y<|lS d)<|Tk 17 Y Y (B2 C5u Y Y)<|Tk 18 Y Y (lr BK Y Y x Y)<|Tk 19 Y Y (FY (vs:=[(0,.string f0.p7)]) (cs:=[.string f0.p7,nS,nS]) Y (λ_=>by kernel_rfl) Y)<|Tk 20 Y Y (Db C5G Y Y (q:=3) Y)<|Tk 21 Y Y (lb 0 C6A Y Y Y Y)<|tR 22 Y Y<|Tk 23 Y Y (AJ (l:=e.m) (j:=j) C5k Y Y Y (λw' a=>rA a c) Y<|lS d)<|Tk 24 Y Y (B2 C5l Y Y)<|Tk 25 Y Y (lr C2J Y Y x Y)<|Tk 26 Y Y (FJ (vs:=[(0,(.agg #[.string f0.p7,nS,nS])),(2,a2)]) (xs:=[(0,[.string f0.p7,nS,nS]),(2,[a2])]) (cs:=[.string f0.p7,nS,nS,iv 0,a2,iv 0,iv 0]) C2x Y ⟨Y,Y,⟨Y,AO<|A2 z,trivial⟩⟩ Y Y) ?_;have an:Gd.rd w [(.string f0.p7),nS,nS,(iv 0),a2,(iv 0),(iv 0)] (⟨⟨f0.p7,[],[]⟩,0,f0.q2,0,0⟩:C3z):=lQ (⟨⟨f0.p7,[],[]⟩,0,f0.q2,0,0⟩:C3z) O4 O4 z;refine ty 27 Y Y<|cv A4z Y Y Y Y (λw' a=>O2 (rA a am)<|rA a an) ?_;refine tZ Y<|tW 28 Y Y Y<|tE<|Xt<|AH [1,4,85] Y<|Ci _ Y (λav=>?_) λav=>?_
           ·refine Sr<|Pe Y<|Ct<|Xq<|Xr<|Xr<|Xq<|Xr<|Rb Y Y ?_;exact kA (lS d) (cV d ‹_›)
           ·refine Ck<|Xb<|Xt<|Cr<|p1 Y<|ad (j+1) Y<|Pe Y λf w' b a=>⟨_,?_,j+1,?_,?_,Y,b.wk Y,a⟩
            ·omega
            ·omega
            ·refine AF au ?_;exact jZ d ‹_› ‹_›
         ·refine Cx<|Xx<|Xx<|Xe<|Xt<|Cq<|Sr<|Pe Y<|Cb<|Cl (λm_ f w'=>∃(p:Nat),(p<=e.u.length)/\(∀i,i<p->∀v,e.u[i]?=some v->AN v=true)/\m_=e.u.length-p/\Fits f 100 [(1,pv o),(5,nv p)]/\St w ([bx o [u1,u3,iv e.g,u5,.bool e.p,u7]]) w') ?_ ?_
          ·refine λf w' b a=>⟨_,0,?_,?_,Y,b.wk Y,a⟩
           ·omega
           ·intro i hi;omega
          ·rintro m_ f w' ⟨p,hp,hv,rfl,b,a⟩;refine D.use ?_ b a;clear b a f w';refine Cq<|Sr<|p1 Y<|fl 0 C4O C5U Y<|dl C4v Y (AE t)<|Pe Y<|Cd Y (λao=>?_) λao=>?_
           ·refine Sk<|Cq<|Cb<|Sr<|fl 0 C4O C5U Y<|p1 Y ?_;obtain⟨v0,a0⟩:=sI e.u p;obtain⟨b3,ap,a4⟩:=AC (n:=4) rfl t a0;obtain⟨b7,rfl,aq⟩:=D2 a4;have b4:=rM aq;refine q1 Y (AJ (l:=e.u) (j:=p) C4v Y Y Y (λw' a=>rA a t) Y<|lS a0)<|q1 Y (EX C2U Y Y ap)<|qv A6h Y (λw' a=>YW (rA a a4)<|ho.2.2.2.2.2 _<|List.mem_of_getElem? a0)<|Pe Y<|CN Y (λar=>?_) λar=>?_
            ·refine Sr<|Pe Y<|Ct<|Xq<|Xr<|Xr<|Xq<|Xr<|Rb Y Y ?_;exact A0t a0 ‹_›
            ·refine Ck<|Xb<|Xt<|Cr<|p1 Y<|ad (p+1) Y<|Pe Y λf w' b a=>⟨_,?_,p+1,?_,?_,Y,b.wk Y,a⟩
             ·omega
             ·omega
             ·refine AF hv ?_;intro y hy;obtain rfl:y=v0:=Option.some.inj (hy.symm.trans a0);assumption
           ·refine Cx<|Xx<|Xx<|Xe<|Xt<|Sr<|Pe Y<|Ct<|Rb Y Y ?_;exact A5d ‹_› ‹_› ‹_› (by omega) (by omega) (λi h=>hm i (by omega)) (λi h=>au i (by omega)) (λi h=>hv i (by omega))
end Go.Sy.Num3
