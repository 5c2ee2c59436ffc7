/-
  Contracts of functions of the program, walked (printed by a program of ours).
  Conditions: those that each theorem states.
-/
import Derived.Test.YtmjmglkogcomaaaGreatDoorEng4
import Derived.Test.YtmjmglkogcomaaaGreatDoorEv3
import Derived.Test.YtmjmglkogcomaaaGreatDoorNum2
import Derived.Test.YtmjmglkogcomaaaGreatDoorFal2
set_option linter.unusedVariables false
set_option maxRecDepth 20000
namespace Go.Sy.Cho2
open Go Go.RowKit Go.Proofs Go.Sy
open Go.Sy.Bel1 Go.Sy.Ev1 Go.Sy.Ev3 Go.Sy.Fmt1 Go.Sy.Eng1 Go.Sy.Eng2 Go.Sy.Eng3 Go.Sy.Eng4 Go.Sy.Num1 Go.Sy.Num2 Go.Sy.Fal2
theorem gT{w:World}{d:Value}{l:(List Int)}{x:Int}(a:Gd.rd w [d] l):Cy 214 [d,(iv x)] w (Val w (.bool (l.contains x))):=by
 have u:=rM a;refine enter 18 Tryz.func214 Y Y Y<|Sr<|Pe Y<|Cq<|Sr<|Pe Y<|Cb<|Cl (λt g w'=>∃(k:Nat),(k<=l.length)/\(∀i,i<k->l[i]?≠some x)/\t=l.length-k/\Fits g 18 [(0,d),(1,iv x),(5,nv k)]/\St w ([]) w') ?_ ?_
 ·refine λg w' f c=>⟨_,0,?_,?_,Y,f.wk Y,c⟩
  ·omega
  ·intro i s;omega
 ·rintro t g w' ⟨k,y,s,rfl,f,c⟩;refine D.use ?_ f c;clear f c g w';refine Cq<|Sr<|P2 Y Y<|dl C1s Y (AE a)<|Pe Y<|Cd Y (λm=>?_) λm=>?_
  ·refine Sk<|Cq<|Cb<|Sr<|P2 Y Y ?_;obtain⟨v,b⟩:=sI l k;obtain⟨o,p,q⟩:=AC (n:=1) rfl a b;obtain rfl:o=[.int .i64 v]:=q;refine q1 Y (AJ (l:=l) (j:=k) C1s Y Y Y (λw' c=>rA c a) Y<|lS b)<|q1 Y (HI CJ Y Y p Y)<|PE 2 Y<|Ce Y (λr=>?_) λr=>?_
   ·refine Sr<|Pe Y<|Ct<|Xq<|Xr<|Xr<|Xq<|Xr<|Rb Y Y ?_;exact A2D b (by omega)
   ·refine Ck<|Xb<|Xt<|Cr<|p1 Y<|ad (k+1) Y<|Pe Y λg w' f c=>⟨_,?_,k+1,?_,?_,Y,f.wk Y,c⟩
    ·omega
    ·omega
    ·refine AF s ?_;intro e;have:=b.symm.trans e;simp only[Option.some.injEq] at this;omega
  ·refine Cx<|Xx<|Xx<|Xe<|Xt<|Sr<|Pe Y<|Ct<|Rb Y Y ?_;exact A2E (λi h=>s i (by omega))
theorem LK{w:World}{e:Value}{l:(List C1G)}(b:Gd.rd w [e] l)(t:DD F9 l<=1048576):Cy 241 [e] w (HH w (l:List C1G)):=by
 have u:=rM b;unfold DD at t;refine enter 21 Tryz.func241 Y Y Y<|Sr<|Pe Y<|Sr<|li Y (FL (α:=C1G) C4y Y Y Y λv2=>?_);refine Pe Y<|Dh [ov [v2] ([]:(List C1G))] Y<|Cq<|Sr<|Pe Y<|Cb<|Cl (λs i w'=>∃(k:Nat),∃(v:Value),(k<=l.length)/\s=l.length-k/\Fits i 21 [(0,e),(3,v),(4,nv k)]/\St w ([ov [v] (l.take k:(List C1G))]) w') ?_ ?_
 ·refine A3 0 Y (show([]:(List C1G))=l.take 0 from by simp) λi w' f a=>⟨_,0,v2,?_,Y,f.wk Y,a⟩
  ·omega
 ·rintro s i w' ⟨k,v,hk,rfl,f,a⟩;refine D.use ?_ f a;clear f a i w';have a1:(l.take k).length<=k:=by rw[List.length_take];omega
  refine Cq<|Sr<|P2 Y Y<|dl C4y Y (AE b)<|Pe Y<|Dh [_] Y<|Cd Y (λm=>?_) λm=>?_
  ·refine Sk<|Cq<|Cb<|Cr<|P3 Y Y Y ?_;obtain⟨p,d⟩:=sI l k;have a2:=C8 (c:=F9) (List.mem_of_getElem? d);obtain⟨x,at5,g⟩:=AC (n:=2) rfl b d;obtain⟨u7,rfl,o⟩:=AS g;have y:=rM o;refine q1 Y (AJ (l:=l) (j:=k) C4y Y Y Y (λw' a=>rA a b) Y<|lS d)<|q1 Y (EX C4N Y Y at5) (qs Y B3a Y (λw' a=>K4 (rA a g) (by omega)) λq=>?_);refine Dp (λw' a=>EZ<|rO (k:=0) a Y) ?_;rintro⟨z,rfl,r⟩;refine li Y (FF C4y C5d Y (by decide) (by decide) Y Y Y Y Y Y λa0=>?_);refine AG [2,1,0] Y<|li Y (GZ C4y C5d Y (by decide) Y Y Y Y Y Y (by omega) (by omega) λh=>?_);refine p1 Y<|De<|Xb<|Xt<|Dh [ov [h] ((l.take k)++ [p]:(List C1G))] Y<|Cr<|p1 Y<|ad (k+1) Y<|Pe Y<|A3 0 Y (show((l.take k)++ [p]:(List C1G))=l.take (k+1) from by exact(A1 d).symm) λi w' f a=>⟨_,?_,k+1,h,?_,Y,f.wk Y,a⟩
   ·omega
   ·omega
  ·refine Cx<|Xx<|Xx<|Xe<|Xt<|Sr<|PE 2 Y<|Ct (FV Y Y λw' a=>A7 (k:=0) a Y ?_);show l.take k=l;rw[List.take_of_length_le (by omega)]
theorem K6{w:World}{a:Value}{b:(List C1J)}(c:Gd.rd w [a] b)(f:b.length<=1048576):Cy 242 [a] w (HH w (b:List C1J)):=by
 have e:=rM c;refine enter 6 Tryz.func242 Y Y Y<|Sr<|Pe Y<|Sr<|li Y (FL (α:=C1J) C5A Y Y Y λv2=>?_);refine p1 Y<|li Y (sH (α:=C1J) (ys:=b) C5A C5b Y (by decide) Y Y Y Y Y Y (λw' d=>rA d c) (by simp;omega) (by simp;omega) λv3=>?_);refine Pe Y<|Ct (FV Y Y λw' d=>A7 (k:=0) d Y ?_);show([])++b=b;rfl
theorem QR{w:World}{e:List Value}{m:Match}(i:Gd.rd w e m)(j:DJ m<=1048576):Cy 215 [(.agg e.toArray)] w (HH w (m:Match)):=by
 obtain⟨l,n,rfl,g,h⟩:=FG i;have o:=rM g;have p:=rM h;unfold DJ at j;have t:DD KE m.f=m.f.length+AI KE m.f:=rfl;refine enter 12 Tryz.func215 Y Y Y<|Sr (bX Y λs=>?_);refine aL C6t Y λu=>?_
 refine Dx<|Dh [bx u [eS,nS,nS],bx s [.string m.p7,l,n]] Y<|Cq<|A0 mixed [9] (by kernel_rfl)<|Tk 0 Y Y (Db C5r Y Y (q:=0) Y)<|Tk 1 Y Y (lb 1 BK Y Y Y Y)<|Tk 2 Y Y (Db C5w Y Y (q:=1) Y)<|Tk 3 Y Y (lb 1 C5m Y Y Y Y)<|Tk 5 Y Y (Db C6u Y Y (q:=2) Y)<|Tk 6 Y Y (lb 1 C6j Y Y Y Y)<|ty 4 Y Y (YJ jA Y Y Y Y (λw' a=>LK (rA a g) (by omega)) λv9=>?_);refine tS (λ_ a=>a.pk [1,2] Y Y)<|ty 7 Y Y (YJ bF Y Y Y Y (λw' a=>K6 (rA a h) (by omega)) λb=>?_);refine tS (λ_ a=>a.pk [2,3] Y Y)<|Dp (λw' a=>CZ (k:=1) a Y) ?_;intro c;refine Dp (λw' a=>CZ (k:=0) a Y) ?_;intro d;refine Tj 8 Y Y (λ_ a=>a.pk [2,3] Y Y) (FJ (vs:=[(0,.string m.p7),(1,v9),(2,b)]) (xs:=[(0,[.string m.p7]),(1,[v9]),(2,[b])]) (cs:=[.string m.p7,v9,b]) C7Q Y ⟨Y,Y,⟨Y,AO c,⟨Y,AO d,trivial⟩⟩⟩ Y Y)<|ty 9 Y Y<|AZ (vs:=[.string m.p7,v9,b]) (cs':=[.string m.p7,v9,b]) 2 C3p Y Y Y Y Y Y (AB Y<|AB c<|AB d BR) (by simp) Y ?_;refine tZ Y<|tE<|Xt<|Ct<|AG [1,0,2,3] Y<|aV (r:=(m:Match)) (eW 1 C6p Y Y Y λw' a=>A7 (k:=0) a Y ?_);show(m:Match)=m;rfl
theorem dT{w:World}{m:Value}{l:(List C1N)}{p:List Value}{f:C1G}(b:Gd.rd w [m] l)(r:Gd.rd w p f):Cy 12 [m,(.agg p.toArray)] w (Val w (iv (GG l f))):=by
 have a4:=rM b;obtain⟨u2,rfl,x⟩:=AS r;have a5:=rM x;refine enter 20 Tryz.func12 Y Y Y<|Sr (bX Y λg5=>?_);refine Pe Y<|Dh [bx g5 [.string f.p5,u2]] Y<|Cq<|Sr<|p1 Y<|dl lZ Y (AE b)<|Pe Y<|Cb<|Cl (λm_ u w'=>∃(k:Nat),(k<=l.length)/\(∀i,i<k->∀y,l[i]?=some y->y.j≠f)/\m_=l.length-k/\Fits u 20 [(3,pv g5),(7,m),(8,nv l.length),(9,nv k)]/\St w ([bx g5 [.string f.p5,u2]]) w') ?_ ?_
 ·refine λu w' o a=>⟨_,0,?_,?_,Y,o.wk Y,a⟩
  ·omega
  ·intro i v;omega
 ·rintro m_ u w' ⟨k,hk,v,rfl,o,a⟩;refine D.use ?_ o a;clear o a u w';refine Sr<|Pe Y<|Cq<|Cd Y (λz=>?_) λz=>?_
  ·refine Sk<|Cq<|Cb<|Sr ?_;obtain⟨c,d⟩:=sI l k;obtain⟨a6,a1,s⟩:=AC (n:=3) rfl b d;obtain⟨e,rfl,g⟩:=B9 s;have a3:=rM g;have t:=BE s;refine q1 Y (AJ (l:=l) (j:=k) lZ Y Y Y (λw' a=>rA a b) Y<|lS d)<|q1 Y (EX I7 Y Y a1) (aL lT Y λa2=>?_);refine li Y<|AZ (vs:=[.string c.j.p5,e,iv c.q1]) (cs':=[.string c.j.p5,e,iv c.q1]) 0 pE Y Y Y Y Y Y (AB Y<|AB (A2 g)<|AB Y BR) (by simp) Y ?_;refine Dx<|Dh [bx a2 [.string c.j.p5,e,iv c.q1],_] Y<|Sr<|q1 Y (Db JK Y Y (q:=0) Y)<|q1 Y (H2 (es:=[.string c.j.p5,e]) 0 C4N Y Y Y Y)<|q1 Y (C9 1 C4N Y Y Y)<|qv B1y Y (λw' a=>OU (rA a t)<|rA a r)<|Dx<|Ci _ Y (λa0=>?_) λa0=>?_
   ·refine Sr<|fl 0 L4 CJ Y<|Pe Y<|Ct<|Xq<|Xr<|Xr<|Xq<|Xr<|Ri Y Y ?_;show(c.q1:Int)=_;exact cW d (by simp_all) v
   ·refine Ck<|Xb<|Xt<|Cr<|ad (k+1) Y<|Pe Y λu w' o a=>⟨_,?_,k+1,?_,?_,Y,o.wk Y,a.pk [1] Y Y⟩
    ·omega
    ·omega
    ·refine AF v ?_;intro y hy;obtain rfl:y=c:=Option.some.inj (hy.symm.trans d);simp_all
  ·refine Cx<|Xx<|Xx<|Xe<|Xt<|Sr<|Pe Y<|Ct<|Ri Y Y ?_;show(0:Int)=_;exact cX (λi h=>v i (by omega))
theorem dU{w:World}{d:Value}{l:(List C1N)}{g:List Value}{f:C1G}(b:Gd.rd w [d] l)(m:Gd.rd w g f):Cy 140 [d,(.agg g.toArray)] w (Val w (iv (GG l f))):=by
 have a1:=rM b;obtain⟨u2,rfl,u⟩:=AS m;have a2:=rM u;refine enter 24 Tryz.func140 Y Y Y<|Sr (bX Y λz=>?_);refine Pe Y<|Dh [bx z [.string f.p5,u2]] Y<|Cq<|Sr<|Pe Y<|Cb<|Cl (λm_ s w'=>∃(k:Nat),(k<=l.length)/\(∀i,i<k->∀y,l[i]?=some y->y.j≠f)/\m_=l.length-k/\Fits s 24 [(0,d),(3,pv z),(5,nv k)]/\St w ([bx z [.string f.p5,u2]]) w') ?_ ?_
 ·refine λs w' e a=>⟨_,0,?_,?_,Y,e.wk Y,a⟩
  ·omega
  ·intro i t;omega
 ·rintro m_ s w' ⟨k,hk,t,rfl,e,a⟩;refine D.use ?_ e a;clear e a s w';refine Cq<|Sr<|P2 Y Y<|dl lZ Y (AE b)<|Pe Y<|Cd Y (λv=>?_) λv=>?_
  ·refine Sk<|Cq<|Cb<|Cq<|A0 mixed [6] (by kernel_rfl)<|tK 5 [0,1] Y ?_;obtain⟨s0,c⟩:=sI l k;obtain⟨a3,r,o⟩:=AC (n:=3) rfl b c;obtain⟨a4,rfl,p⟩:=B9 o;have a0:=rM p;have q:=BE o;refine Tk 2 Y Y (AJ (l:=l) (j:=k) lZ Y Y Y (λw' a=>rA a b) Y<|lS c)<|Tk 3 Y Y (B2 JK Y Y)<|Tk 4 Y Y (EX C4N Y Y<|Q1 (f:=0) (n:=2) r Y)<|Tk 5 Y Y (C9 0 C4N Y Y Y)<|ty 6 Y Y<|cv A6z Y Y Y Y (λw' a=>cJ (rA a q)<|rA a m) ?_;refine tZ Y<|tE<|Xt<|Ci _ Y (λx=>?_) λx=>?_
   ·refine Sr<|P2 Y Y<|q1 Y (AJ (l:=l) (j:=k) lZ Y Y Y (λw' a=>rA a b) Y<|lS c)<|q1 Y (B2 L4 Y Y)<|q1 Y (lr CJ Y Y r Y)<|Pe Y<|Ct<|Xq<|Xr<|Xr<|Xq<|Xr<|Ri Y Y ?_;show(s0.q1:Int)=_;exact cW c (by simp_all) t
   ·refine Ck<|Xb<|Xt<|Cr<|p1 Y<|ad (k+1) Y<|Pe Y λs w' e a=>⟨_,?_,k+1,?_,?_,Y,e.wk Y,a⟩
    ·omega
    ·omega
    ·refine AF t ?_;intro y hy;obtain rfl:y=s0:=Option.some.inj (hy.symm.trans c);simp_all
  ·refine Cx<|Xx<|Xx<|Xe<|Xt<|Sr<|Pe Y<|Ct<|Ri Y Y ?_;show(0:Int)=_;exact cX (λi h=>t i (by omega))
theorem WE{w:World}{m:Value}{l:(List C1N)}{p:List Value}{f:C1G}(b:Gd.rd w [m] l)(r:Gd.rd w p f):Cy 35 [m,(.agg p.toArray)] w (Val w (.bool (K5 l f))):=by
 have a4:=rM b;obtain⟨u2,rfl,x⟩:=AS r;have a5:=rM x;refine enter 18 Tryz.func35 Y Y Y<|Sr (bX Y λg5=>?_);refine Pe Y<|Dh [bx g5 [.string f.p5,u2]] Y<|Cq<|Sr<|p1 Y<|dl lZ Y (AE b)<|Pe Y<|Cb<|Cl (λm_ u w'=>∃(k:Nat),(k<=l.length)/\(∀i,i<k->∀y,l[i]?=some y->y.j≠f)/\m_=l.length-k/\Fits u 18 [(3,pv g5),(7,m),(8,nv l.length),(9,nv k)]/\St w ([bx g5 [.string f.p5,u2]]) w') ?_ ?_
 ·refine λu w' o a=>⟨_,0,?_,?_,Y,o.wk Y,a⟩
  ·omega
  ·intro i v;omega
 ·rintro m_ u w' ⟨k,hk,v,rfl,o,a⟩;refine D.use ?_ o a;clear o a u w';refine Sr<|Pe Y<|Cq<|Cd Y (λz=>?_) λz=>?_
  ·refine Sk<|Cq<|Cb<|Sr ?_;obtain⟨e,c⟩:=sI l k;obtain⟨a6,a1,s⟩:=AC (n:=3) rfl b c;obtain⟨d,rfl,g⟩:=B9 s;have a3:=rM g;have t:=BE s;refine q1 Y (AJ (l:=l) (j:=k) lZ Y Y Y (λw' a=>rA a b) Y<|lS c)<|q1 Y (EX I7 Y Y a1) (aL lT Y λa2=>?_);refine li Y<|AZ (vs:=[.string e.j.p5,d,iv e.q1]) (cs':=[.string e.j.p5,d,iv e.q1]) 0 pE Y Y Y Y Y Y (AB Y<|AB (A2 g)<|AB Y BR) (by simp) Y ?_;refine Dx<|Dh [bx a2 [.string e.j.p5,d,iv e.q1],_] Y<|Sr<|q1 Y (Db JK Y Y (q:=0) Y)<|q1 Y (H2 (es:=[.string e.j.p5,d]) 0 C4N Y Y Y Y)<|q1 Y (C9 1 C4N Y Y Y)<|qv B1y Y (λw' a=>OU (rA a t)<|rA a r)<|Dx<|Ci _ Y (λa0=>?_) λa0=>?_
   ·refine Sr<|Pe Y<|Ct<|Xq<|Xr<|Xr<|Xq<|Xr<|Rb Y Y ?_;exact xP c (by simp_all) v
   ·refine Ck<|Xb<|Xt<|Cr<|ad (k+1) Y<|Pe Y λu w' o a=>⟨_,?_,k+1,?_,?_,Y,o.wk Y,a.pk [1] Y Y⟩
    ·omega
    ·omega
    ·refine AF v ?_;intro y hy;obtain rfl:y=e:=Option.some.inj (hy.symm.trans c);simp_all
  ·refine Cx<|Xx<|Xx<|Xe<|Xt<|Sr<|Pe Y<|Ct<|Rb Y Y ?_;exact xQ (λi h=>v i (by omega))
theorem Z4{w:World}{d:Value}{l:(List C1N)}{b:Value}{facts:(List C1G)}(g:Gd.rd w [d] l)(a:Gd.rd w [b] facts)(hn:facts.length<=1048576):Cy 213 [d,b] w (HH w (BJ l facts:List Int)):=by
 have u:=rM g;have x:=rM a;refine enter 24 Tryz.func213 Y Y Y<|Sr<|Pe Y<|Sr<|li Y (FL (α:=Int) C1s Y Y Y λv3=>?_);refine Pe Y<|Dh [ov [v3] ([]:(List Int))] Y<|Cq<|Sr<|Pe Y<|Cb<|Cl (λt o w'=>∃(k:Nat),∃(v:Value),(k<=facts.length)/\t=facts.length-k/\Fits o 24 [(0,d),(1,b),(5,v),(6,nv k)]/\St w ([ov [v] (BJ l (facts.take k):(List Int))]) w') ?_ ?_
 ·refine A3 0 Y (show([]:(List Int))=BJ l (facts.take 0) from by exact XO l facts) λo w' f c=>⟨_,0,v3,?_,Y,f.wk Y,c⟩
  ·omega
 ·rintro t o w' ⟨k,v,hk,rfl,f,c⟩;refine D.use ?_ f c;clear f c o w';have a0:=SL l facts k;refine Cq<|Sr<|P2 Y Y<|dl C4y Y (AE a)<|Pe Y<|Dh [_] Y<|Cd Y (λp=>?_) λp=>?_
  ·refine Sk<|Cq<|Cb<|Cr<|P3 Y Y Y<|p1 Y ?_;obtain⟨q,e⟩:=sI facts k;obtain⟨y,r,h⟩:=AC (n:=2) rfl a e;obtain⟨u9,rfl,i⟩:=AS h;have s:=rM i;refine q1 Y (AJ (l:=facts) (j:=k) C4y Y Y Y (λw' c=>rA c a) Y<|lS e)<|q1 Y (EX C4N Y Y r)<|qv A3x Y (λw' c=>dU (rA c g)<|rA c h)<|li Y (FF C1s vH Y (by decide) (by decide) Y Y Y Y Y Y λz=>?_);refine O7 (GG l q)<|AG [2,0,1] Y<|li Y (GZ C1s vH Y (by decide) Y Y Y Y Y Y (by omega) (by omega) λm=>?_);refine p1 Y<|De<|Xb<|Xt<|Dh [ov [m] ((BJ l<|facts.take k)++ [GG l q]:(List Int))] Y<|Cr<|p1 Y<|ad (k+1) Y<|Pe Y<|A3 0 Y (show((BJ l (facts.take k))++ [(GG l q)]:(List Int))=BJ l (facts.take (k+1)) from by exact XN e) λo w' f c=>⟨_,?_,k+1,m,?_,Y,f.wk Y,c⟩
   ·omega
   ·omega
  ·refine Cx<|Xx<|Xx<|Xe<|Xt<|Sr<|PE 2 Y<|Ct (FV Y Y λw' c=>A7 (k:=0) c Y ?_);show BJ l (facts.take k)=BJ l facts;rw[List.take_of_length_le (by omega)]
theorem RP{w:World}{s:List Value}{r:C1M}(a2:Gd.rd w s r)(hn:BG r<=1048576)(ho:H9 r):Cy 216 [(.agg s.toArray)] w (Val w (iv ((GD r:Int)))):=by
 obtain⟨u1,u3,rfl,g,a3⟩:=BC a2;have a7:=rM g;have a8:=rM a3;unfold BG DD at hn;refine enter 42 Tryz.func216 Y Y Y<|Sr (bX Y λg7=>?_);refine Pe Y<|Dh [bx g7 [.string r.y,iv r.p3,u1,u3]] Y<|Sr<|fl 0 C4x C5a Y<|dl C5F Y (AE g)<|Pe Y<|Cq<|Sr<|Pe Y<|Cb<|Cl (λm_ i w'=>∃(k:Nat),∃(c:Nat),(k<=r.q.length)/\(c=r.q.length+AI spC (r.q.take k))/\m_=r.q.length-k/\Fits i 42 [(1,pv g7),(3,nv c),(4,nv k)]/\St w ([bx g7 [.string r.y,iv r.p3,u1,u3]]) w') ?_ ?_
 ·refine λi w' e b=>⟨_,0,r.q.length,?_,?_,Y,e.wk Y,b⟩
  ·omega
  ·simp[AI]
 ·rintro m_ i w' ⟨k,c,hk,hc,rfl,e,b⟩;refine D.use ?_ e b;clear e b i w';have a9:=cZ r.q k;have aa:=kD r.q;refine Cq<|Sr<|p1 Y<|fl 0 C4x C5a Y<|dl C5F Y (AE g)<|Pe Y<|Cd Y (λa4=>?_) λa4=>?_
  ·refine Sk<|Cq<|Cb<|Cq ?_;obtain⟨o,h⟩:=sI r.q k;obtain⟨ab,p,t⟩:=AC (n:=5) rfl g h;obtain⟨ae,rfl,f⟩:=A8 t;have a6:=rM f;refine Cr<|Pe Y<|Cb<|Cl (λm_ i w'=>∃(j:Nat),∃(d:Nat),(j<=o.p2.a.length)/\(d=c+kB (o.p2.a.take j))/\m_=o.p2.a.length-j/\Fits i 42 [(1,pv g7),(3,nv d),(4,nv k),(5,nv j)]/\St w ([bx g7 [.string r.y,iv r.p3,u1,u3]]) w') ?_ ?_
   ·refine λi w' e b=>⟨_,0,c,?_,?_,Y,e.wk Y,b⟩
    ·omega
    ·simp[kB]
   ·rintro m_ i w' ⟨j,d,hj,hd,rfl,e,b⟩;refine D.use ?_ e b;clear e b i w';have af:=gK (o.p2.a.take j);have ag:(o.p2.a.take j).length<=j:=by rw[List.length_take];omega
    have ah:=BX o;have ai:=IX h;refine Cq<|Sr<|p1 Y<|fl 0 C4x C5a Y<|p1 Y<|q1 Y (AJ (l:=r.q) (j:=k) C5F Y Y Y (λw' b=>rA b g) Y<|lS h)<|q1 Y (B2 C4h Y Y)<|q1 Y (JP B6C Y Y (q:=2) Y)<|q1 Y (lr VN Y Y p Y)<|dl HJ Y (AE f)<|Pe Y<|Cd Y (λu=>?_) λu=>?_
    ·refine Sk<|Cq<|Cb<|Sr<|fl 0 C4x C5a Y<|p1 Y<|q1 Y (AJ (l:=r.q) (j:=k) C5F Y Y Y (λw' b=>rA b g) Y<|lS h)<|q1 Y (B2 C4h Y Y)<|q1 Y (JP B6C Y Y (q:=2) Y)<|q1 Y (lr VN Y Y p Y)<|p1 Y ?_;obtain⟨a0,m⟩:=sI o.p2.a j;obtain⟨v,z,a1⟩:=AC (n:=1) rfl f m;obtain rfl:v=[.string a0]:=a1;refine q1 Y (AJ (l:=o.p2.a) (j:=j) HJ Y Y Y (λw' b=>rA b f) Y<|lS m)<|q1 Y (HI BK Y Y z Y)<|qv A6v Y (λw' b=>FD ((ho.2.2.1 _<|List.mem_of_getElem? h).2.1.2 _ (List.mem_of_getElem? m)))<|Dx<|AH [1,3,4,5,38] Y<|Ci _ Y (λa5=>?_) λa5=>?_
     ·refine Cr<|p1 Y<|ad (d+1) Y<|p1 Y<|De<|Xb<|Xt<|Cr<|p1 Y<|ad (j+1) Y<|Pe Y λi w' e b=>⟨_,?_,j+1,d+1,?_,?_,Y,e.wk Y,b⟩
      ·omega
      ·omega
      ·have:=A0u m ‹_›;omega
     ·refine Ck<|Xb<|Xt<|Cr<|p1 Y<|ad (j+1) Y<|Pe Y λi w' e b=>⟨_,?_,j+1,d,?_,?_,Y,e.wk Y,b⟩
      ·omega
      ·omega
      ·have:=A0v m ‹_›;omega
    ·refine Cx<|Xx<|Xx<|Xe<|Xb<|Xt<|Cr<|p1 Y<|ad (k+1) Y<|Pe Y λi w' e b=>⟨_,?_,k+1,d,?_,?_,Y,e.wk Y,b⟩
     ·omega
     ·omega
     ·have ak:=G2 (c:=spC) h;have aj:=kC (x:=o) (k:=j) (by omega);omega
  ·refine Cx<|Xx<|Xx<|Xe<|Xt<|Sr<|PE 2 Y<|Ct<|Ri Y Y ?_;show(((c:Nat):Int):Int)=_;unfold GD;rw[List.take_of_length_le (by omega)] at hc;omega
theorem WG{w:World}{h:Value}{rules:(List C1M)}{u:Value}{l:(List C1N)}{v:List Value}{m:Match}(a:Gd.rd w [h] rules)(t:Gd.rd w [u] l)(z:Gd.rd w v m)(hn:DD BG rules<=1048576)(hm:DJ m<=1048576)(hl:DD CM l<=1048576)(ho:LR H9 rules)(a8:LR MA l):Cy 169 [h,u,(.agg v.toArray)] w (O8 w (CW rules l m:C3z) (G9 rules l m:Bool)):=by
 have ah:=rM a;have ai:=rM t;obtain⟨u3,u5,rfl,a0,a9⟩:=FG z;have aj:=rM a0;have ak:=rM a9;have aa:=hm;unfold DJ DD at hm;have ap:=QI rules m.p7;have al:=hn;unfold DD at hn;refine enter 50 Tryz.func169 Y Y Y<|Sr (bX Y λg9=>?_);refine aL C2I Y λac=>?_
 refine Pe Y<|Dh [bx ac [eS,nS,nS,iv 0,nS,iv 0,iv 0],bx g9 [.string m.p7,u3,u5]] Y<|Sr<|p1 Y<|fl 1 C5r BK Y<|qv A0N Y (λw' b=>LE<|rA b a)<|Pe Y<|Sr<|p1 Y<|fl 1 C5w C5m Y (ql A0H Y (λw' b=>Z4 (rA b t) (rA b a0) (by omega)) λi=>?_);refine Pe Y<|Dh [ov [i] (BJ l m.k:(List Int)),_,_] Y<|Cq<|Sr<|p1 Y<|qv A4f Y (λw' b=>LF (rA b a) ‹_› ho)<|P2 Y Y<|JQ 21 Y Y (λa1=>?_) λa1=>?_
 ·refine PE 12 Y<|AH [0,5,6,8,9,33] Y<|GF Y<|Sr<|q1 Y (FY (vs:=[]) (cs:=[eS,nS,nS,iv 0,nS,iv 0,iv 0]) Y (λ_=>by kernel_rfl) Y)<|li Y<|AZ (vs:=[eS,nS,nS,iv 0,nS,iv 0,iv 0]) (cs':=[eS,nS,nS,iv 0,nS,iv 0,iv 0]) 1 C1m Y Y Y Y Y Y (AB Y<|AB Y<|AB Y<|AB Y<|AB Y<|AB Y<|AB Y BR) (by simp) Y ?_;refine Pe Y<|Ct<|Xr<|CG (α:=C1G)<|CG (α:=C1J)<|CG (α:=Int)<|AG [2,1,0,3,4,5] Y<|FO (r:=(⟨⟨⟨#[]⟩,[],[]⟩,0,[],0,0⟩:C3z))<|AX false<|AG [1,0,2,3,4] Y (DL Y (zH (cs:=[eS,nS,nS,iv 0,nS,iv 0,iv 0]) 3 C1g Y Y) (D8 Y) λw' b=>AY (c1:=[eS,nS,nS,iv 0,nS,iv 0,iv 0]) (c2:=[.bool false]) b ?_ ?_)
  ·show((⟨⟨⟨#[]⟩,[],[]⟩,0,[],0,0⟩:C3z):C3z)=CW rules l m;exact(C6g (.inl ‹_›)).1
  ·show(false:Bool)=G9 rules l m;exact(C6g (.inl ‹_›)).2
 ·refine p1 Y<|qv A4y Y (λw' b=>OX (rA b t) ‹_› a8)<|P3 Y Y Y<|JQ 26 Y Y (λa2=>?_) λa2=>?_
  ·refine PE 7 Y<|AH [0,5,6,8,9,33] Y<|GF Y<|Sr<|q1 Y (FY (vs:=[]) (cs:=[eS,nS,nS,iv 0,nS,iv 0,iv 0]) Y (λ_=>by kernel_rfl) Y)<|li Y<|AZ (vs:=[eS,nS,nS,iv 0,nS,iv 0,iv 0]) (cs':=[eS,nS,nS,iv 0,nS,iv 0,iv 0]) 1 C1m Y Y Y Y Y Y (AB Y<|AB Y<|AB Y<|AB Y<|AB Y<|AB Y<|AB Y BR) (by simp) Y ?_;refine Pe Y<|Ct<|Xr<|CG (α:=C1G)<|CG (α:=C1J)<|CG (α:=Int)<|AG [2,1,0,3,4,5] Y<|FO (r:=(⟨⟨⟨#[]⟩,[],[]⟩,0,[],0,0⟩:C3z))<|AX false<|AG [1,0,2,3,4] Y (DL Y (zH (cs:=[eS,nS,nS,iv 0,nS,iv 0,iv 0]) 3 C1g Y Y) (D8 Y) λw' b=>AY (c1:=[eS,nS,nS,iv 0,nS,iv 0,iv 0]) (c2:=[.bool false]) b ?_ ?_)
   ·show((⟨⟨⟨#[]⟩,[],[]⟩,0,[],0,0⟩:C3z):C3z)=CW rules l m;exact(C6g (.inr (.inl ‹_›))).1
   ·show(false:Bool)=G9 rules l m;exact(C6g (.inr (.inl ‹_›))).2
  ·refine P3 Y Y Y<|p1 Y<|EY 30 Y Y (λa3=>?_) λa3=>?_
   ·refine PE 3 Y<|AH [0,5,6,8,9,33] Y<|GF Y<|Sr<|q1 Y (FY (vs:=[]) (cs:=[eS,nS,nS,iv 0,nS,iv 0,iv 0]) Y (λ_=>by kernel_rfl) Y)<|li Y<|AZ (vs:=[eS,nS,nS,iv 0,nS,iv 0,iv 0]) (cs':=[eS,nS,nS,iv 0,nS,iv 0,iv 0]) 1 C1m Y Y Y Y Y Y (AB Y<|AB Y<|AB Y<|AB Y<|AB Y<|AB Y<|AB Y BR) (by simp) Y ?_;refine Pe Y<|Ct<|Xr<|CG (α:=C1G)<|CG (α:=C1J)<|CG (α:=Int)<|AG [2,1,0,3,4,5] Y<|FO (r:=(⟨⟨⟨#[]⟩,[],[]⟩,0,[],0,0⟩:C3z))<|AX false<|AG [1,0,2,3,4] Y (DL Y (zH (cs:=[eS,nS,nS,iv 0,nS,iv 0,iv 0]) 3 C1g Y Y) (D8 Y) λw' b=>AY (c1:=[eS,nS,nS,iv 0,nS,iv 0,iv 0]) (c2:=[.bool false]) b ?_ ?_)
    ·show((⟨⟨⟨#[]⟩,[],[]⟩,0,[],0,0⟩:C3z):C3z)=CW rules l m;exact(C6g (.inr (.inr (ZM (by omega))))).1
    ·show(false:Bool)=G9 rules l m;exact(C6g (.inr (.inr (ZM (by omega))))).2
   ·refine p1 Y<|qv B2k Y (λw' b=>gT<|rO (k:=0) b Y)<|Pe Y<|AH [0,5,6,8,9,33] Y<|Ci _ Y (λab=>?_) λab=>?_
    ·refine Sr<|q1 Y (FY (vs:=[]) (cs:=[eS,nS,nS,iv 0,nS,iv 0,iv 0]) Y (λ_=>by kernel_rfl) Y)<|li Y<|AZ (vs:=[eS,nS,nS,iv 0,nS,iv 0,iv 0]) (cs':=[eS,nS,nS,iv 0,nS,iv 0,iv 0]) 1 C1m Y Y Y Y Y Y (AB Y<|AB Y<|AB Y<|AB Y<|AB Y<|AB Y<|AB Y BR) (by simp) Y ?_;refine Pe Y<|Ct<|Xr<|CG (α:=C1G)<|CG (α:=C1J)<|CG (α:=Int)<|AG [2,1,0,3,4,5] Y<|FO (r:=(⟨⟨⟨#[]⟩,[],[]⟩,0,[],0,0⟩:C3z))<|AX false<|AG [1,0,2,3,4] Y (DL Y (zH (cs:=[eS,nS,nS,iv 0,nS,iv 0,iv 0]) 3 C1g Y Y) (D8 Y) λw' b=>AY (c1:=[eS,nS,nS,iv 0,nS,iv 0,iv 0]) (c2:=[.bool false]) b ?_ ?_)
     ·show((⟨⟨⟨#[]⟩,[],[]⟩,0,[],0,0⟩:C3z):C3z)=CW rules l m;exact(sP ‹_› ‹_›).1
     ·show(false:Bool)=G9 rules l m;exact(sP ‹_› ‹_›).2
    ·refine Sk<|Cq<|A0 mixed [15,16] (by kernel_rfl)<|Tk 0 Y Y (C9 2 C6p Y Y Y)<|tK 14 [2,3] Y ?_;obtain⟨g,o⟩:=sI rules ((BN rules m.p7).toNat);have ao:=C8 (c:=BG) (List.mem_of_getElem? o);obtain⟨ad,p,q⟩:=AC (n:=4) rfl a o;obtain⟨am,an,rfl,a4,a5⟩:=BC q;have ae:=rM a4;have af:=rM a5;refine Tk 4 Y Y (AJ (l:=rules) (j:=((BN rules m.p7).toNat)) lW Y Y Y (λw' b=>rA b a) (Int.toNat_of_nonneg (by omega)).symm (lS o))<|Tk 5 Y Y (B2 C6L Y Y)<|Tk 6 Y Y (lr CJ Y Y p Y)<|tK 8 [7,8,9] Y<|Tk 10 Y Y (AJ (l:=rules) (j:=((BN rules m.p7).toNat)) lW Y Y Y (λw' b=>rA b a) (Int.toNat_of_nonneg (by omega)).symm (lS o))<|Tk 11 Y Y (EX C5D Y Y p)<|tR 13 Y Y<|ty 1 Y Y (zE Y B2j Y Y Y Y (λw' b=>QR (rA b z) aa) λag=>?_);refine Dp (λw' b=>KT<|rO (k:=0) b Y) ?_;rintro⟨d,e,rfl,a6,a7⟩;refine tS (λ_ b=>b.pk [1,2,3] Y Y)<|ty 12 Y Y<|cv pT Y Y Y Y (λw' b=>RP (rA b q) (by omega)<|ho _<|List.mem_of_getElem? o) ?_;refine tS (λ_ b=>b.pk [1,2,3] Y Y)<|Dp (λw' b=>CZ (k:=1) b Y) ?_;intro s;refine Tj 14 Y Y (λ_ b=>b.pk [1,2,3] Y Y) (FJ (vs:=[(0,(.agg #[.string m.p7,d,e])),(1,iv g.p3),(2,i),(3,iv (GD g:Int)),(4,iv<|BN rules m.p7)]) (xs:=[(0,[.string m.p7,d,e]),(1,[iv g.p3]),(2,[i]),(3,[iv (GD g:Int)]),(4,[iv<|BN rules m.p7])]) (cs:=[.string m.p7,d,e,iv g.p3,i,iv (GD g:Int),iv<|BN rules m.p7]) C2x Y ⟨Y,Y,⟨Y,Y,⟨Y,AO s,⟨Y,Y,⟨Y,Y,trivial⟩⟩⟩⟩⟩ Y Y)<|ty 15 Y Y<|AZ (vs:=[.string m.p7,d,e,iv g.p3,i,iv (GD g:Int),iv<|BN rules m.p7]) (cs':=[.string m.p7,d,e,iv g.p3,i,iv (GD g:Int),iv<|BN rules m.p7]) 2 C1m Y Y Y Y Y Y (AB Y<|AB a6<|AB a7<|AB Y<|AB s<|AB Y<|AB Y BR) (by simp) Y ?_;refine tZ Y<|tW 16 Y Y Y<|tE<|Xt<|Ct<|BB (α:=ByteArray) (β:=(List C1G)×(List C1J)) (c1:=[.string m.p7]) (c2:=[d,e]) (x:=m.p7) (y:=(m.k,m.f)) Y Y<|BZ [] 1 Y<|BB (α:=List C1G) (β:=List C1J) (c1:=[d]) (c2:=[e]) (x:=m.k) (y:=m.f) Y Y<|BZ [1] 0 Y<|AG [1,0,2,3,4] Y<|FO (r:=(⟨m,g.p3,BJ l m.k,(GD g:Int),BN rules m.p7⟩:C3z))<|AX true<|AG [1,0,2,3] Y (DL Y (zH (cs:=[.string m.p7,d,e,iv g.p3,i,iv (GD g:Int),iv<|BN rules m.p7]) 2 C1g Y Y) (D8 Y) λw' b=>AY (c1:=[.string m.p7,d,e,iv g.p3,i,iv (GD g:Int),iv<|BN rules m.p7]) (c2:=[.bool true]) b ?_ ?_)
     ·show((⟨m,g.p3,BJ l m.k,(GD g:Int),(BN rules m.p7)⟩:C3z):C3z)=CW rules l m;exact(sO ‹_› ‹_› (by omega) ‹_› o).1
     ·show(true:Bool)=G9 rules l m;exact(sO ‹_› ‹_› (by omega) ‹_› o).2
end Go.Sy.Cho2
