/-
  Contracts of functions of the program, walked (printed by a program of ours).
  Conditions: those that each theorem states.
-/
import Derived.Test.YtmjmglkogcomaaaGreatDoorEng2
set_option linter.unusedVariables false
set_option maxRecDepth 20000
namespace Go.Sy.Eng3
open Go Go.RowKit Go.Proofs Go.Sy
open Go.Sy.Bel1 Go.Sy.Ev1 Go.Sy.Eng1 Go.Sy.Eng2
theorem NM{w:World}{m:List Value}{r:C1M}{n:Int}(z:Gd.rd w m r)(hn:BG r<=1048576):Cy 118 [(.agg m.toArray),(iv n)] w (HH w (AD (DR r n):List ByteArray)):=by
 obtain⟨u1,u3,rfl,g,a0⟩:=BC z;have a5:=rM g;have a6:=rM a0;unfold BG DD at hn;refine enter 33 Tryz.func118 Y Y Y<|Sr (bX Y λg7=>?_);refine Pe Y<|Dh [bx g7 [.string r.y,iv r.p3,u1,u3]] Y<|Sr<|Pe Y<|Cq<|Sr<|fl 0 C4x C5a Y<|dl C5F Y (AE g)<|Pe Y<|Cb<|Cl (λm_ i w'=>∃(k:Nat),∃(v:Value),(k<=r.q.length)/\m_=r.q.length-k/\Fits i 33 [(1,iv n),(5,v),(9,u1),(10,nv r.q.length),(11,nv k)]/\St w ([ov [v] (V5 r n k:(List ByteArray)),bx g7 [.string r.y,iv r.p3,u1,u3]]) w') ?_ ?_
 ·refine CG (α:=ByteArray)<|A3 0 Y (show([]:(List ByteArray))=V5 r n 0 from by exact wQ r n) λi w' f c=>⟨_,0,nS,?_,Y,f.wk Y,c⟩
  ·omega
 ·rintro m_ i w' ⟨k,v,hk,rfl,f,c⟩;refine D.use ?_ f c;clear f c i w';have ab:=wO r n k;refine Sr<|Pe Y<|Dh [_,_] Y<|Cq<|Cd Y (λa1=>?_) λa1=>?_
  ·refine Sk<|Cq<|Cb<|Sr<|p1 Y ?_;obtain⟨b,d⟩:=sI r.q k;have ae:=IX d;have af:=BX b;have aa:=C1 b.p2.a;have a9:=BO (AM b.p2.a);have a2:=EF b;have a4:=BO (A6 b);obtain⟨a7,o,p⟩:=AC (n:=5) rfl g d;obtain⟨h,rfl,e⟩:=A8 p;have a3:=rM e;refine q1 Y (AJ (l:=r.q) (j:=k) C5F Y Y Y (λw' c=>rA c g) Y<|lS d)<|q1 Y (EX C4n Y Y o) (aL C5Q Y λg16=>?_);refine p1 Y<|li Y<|AZ (vs:=[iv b.s,.string b.p2.p5,h,.string b.t,.string b.p6]) (cs':=[iv b.s,.string b.p2.p5,h,.string b.t,.string b.p6]) 0 C5R Y Y Y Y Y Y (AB Y<|AB Y<|AB (A2 e)<|AB Y<|AB Y BR) (by simp) Y ?_;refine Dx<|Dh [bx g16 [iv b.s,.string b.p2.p5,h,.string b.t,.string b.p6],_,_] Y<|Sr<|P3 Y Y Y<|p1 Y<|EY 19 Y Y (λu=>?_) λu=>?_
   ·refine fl 0 C4z CJ Y<|PE 2 Y<|Ce Y (λx=>?_) λx=>?_
    ·refine Cr<|p1 Y<|q1 Y (Db C4h Y Y (q:=1) Y)<|fl 0 B6C VN Y (ql B3V Y (λw' c=>KA (rA c e) (by omega)) λa8=>?_);refine AG [2,0,1,3] Y<|li Y (PW (α:=ByteArray) (ys:=AM b.p2.a) HJ QZ Y Y Y Y Y Y (λw' c=>rO (k:=1) c Y) (by omega) (by omega) λv20=>?_);refine p1 Y<|De<|Xb<|Xt<|AH [1,5,9,10,11] Y<|AG [0,3] Y<|Dh [ov [v20] ((V5 r n k)++(AM b.p2.a):(List ByteArray)),_] Y<|Cr<|ad (k+1) Y<|Pe Y<|A3 0 Y (show((V5 r n k)++(AM b.p2.a):(List ByteArray))=V5 r n (k+1) from by exact A5M d (by omega) (by omega)) λi w' f c=>⟨_,?_,k+1,v20,?_,Y,f.wk Y,c⟩
     ·omega
     ·omega
    ·refine Ck<|Xb<|Xt<|Cr<|ad (k+1) Y<|Pe Y<|A3 1 Y (show(V5 r n k:(List ByteArray))=V5 r n (k+1) from by exact A0i d (.inr (by omega))) λi w' f c=>⟨_,?_,k+1,v,?_,Y,f.wk Y,c.pk [1,2] Y Y⟩
     ·omega
     ·omega
   ·refine PE 4 Y<|G7 Y<|Ck<|Xb<|Xt<|Cr<|ad (k+1) Y<|Pe Y<|A3 1 Y (show(V5 r n k:(List ByteArray))=V5 r n (k+1) from by exact A0i d (.inl (by omega))) λi w' f c=>⟨_,?_,k+1,v,?_,Y,f.wk Y,c.pk [1,2] Y Y⟩
    ·omega
    ·omega
  ·refine Cx<|Xx<|Xx<|Xe<|Xt<|Sr<|p1 Y (ql A3y Y (λw' c=>IQ (rO (k:=0) c Y) (by omega)) λv21=>?_);refine Pe Y<|Ct (FV Y Y λw' c=>A7 (k:=0) c Y ?_);show AD (V5 r n k)=AD (DR r n);rw[qW (by omega) (by omega)]
theorem KC{w:World}{t:List Value}{r:C1M}{n:Int}(a2:Gd.rd w t r)(hn:BG r<=1048576)(ho:H9 r):Cy 178 [(.agg t.toArray),(iv n)] w (HH w (AD (DR r n):List ByteArray)):=by
 obtain⟨u1,u3,rfl,h,a3⟩:=BC a2;have aa:=rM h;have ab:=rM a3;unfold BG DD at hn;refine enter 49 Tryz.func178 Y Y Y<|Sr (bX Y λg7=>?_);refine Pe Y<|Dh [bx g7 [.string r.y,iv r.p3,u1,u3]] Y<|Sr<|li Y (FL (α:=ByteArray) HJ Y Y Y λv8=>?_);refine Pe Y<|Dh [ov [v8] ([]:(List ByteArray)),_] Y<|Cq<|Sr<|Pe Y<|Cb<|Cl (λm_ g w'=>∃(i:Nat),∃(v:Value),(i<=r.q.length)/\(i=0\/(i:Int)<=n)/\m_=r.q.length-i/\Fits g 49 [(1,iv n),(2,pv g7),(5,v),(6,nv i)]/\St w ([ov [v] (AD (MV r i):(List ByteArray)),bx g7 [.string r.y,iv r.p3,u1,u3]]) w') ?_ ?_
 ·refine A3 0 Y (show([]:(List ByteArray))=AD (MV r 0) from by exact rC r) λg w' e b=>⟨_,0,v8,?_,?_,Y,e.wk Y,b⟩
  ·omega
  ·exact .inl rfl
 ·rintro m_ g w' ⟨i,v,hi,ag,rfl,e,b⟩;refine D.use ?_ e b;clear e b g w';have ai:=jL r i;have am:=BO (MV r i);refine Cq<|Sr<|p1 Y<|fl 1 C4x C5a Y<|dl C5F Y (AE h)<|P2 Y Y<|EY 15 Y Y (λa4=>?_) λa4=>?_
  ·refine PE 4 Y<|Dh [_,_] Y<|Cd Y (λu=>?_) λu=>?_
   ·refine Sk<|Cq<|Cb<|Sr<|fl 1 C4x C5a Y<|p1 Y ?_;obtain⟨c,d⟩:=sI r.q i;have aj:=IX d;have al:=BX c;have ah:=C1 c.p2.a;have af:=BO (AM c.p2.a);have a6:=EF c;have a9:=BO (A6 c);have a5:=ho.2.2.1 _ (List.mem_of_getElem? d);obtain⟨a7,m,o⟩:=AC (n:=5) rfl h d;obtain⟨ae,rfl,x⟩:=A8 o;have a8:=rM x;have z:=AK o;refine q1 Y (AJ (l:=r.q) (j:=i) C5F Y Y Y (λw' b=>rA b h) Y<|lS d)<|q1 Y (B2 C4z Y Y)<|q1 Y (lr CJ Y Y m Y)<|Pe Y<|AH [1,2,5,6,28] Y<|Ce Y (λa0=>?_) λa0=>?_
    ·refine Sr<|fl 1 C4x C5a Y<|p1 Y<|q1 Y (AJ (l:=r.q) (j:=i) C5F Y Y Y (λw' b=>rA b h) Y<|lS d)<|q1 Y (B2 C4h Y Y)<|q1 Y (EX B8m Y Y<|Q1 (f:=1) (n:=2) m Y) (ql zN Y (λw' b=>I8 (rA b z) (by omega) (by exact a5.2.1)) λp=>?_);refine Pe Y<|Dh [ov [p] (AD (AM c.p2.a):(List ByteArray)),_,_] Y<|Sr<|Pe Y<|Cb<|Cl (λm_ g w'=>∃(q:Nat),∃(v2:Value),(q<=(AD<|AM c.p2.a).length)/\m_=(AD<|AM c.p2.a).length-q/\Fits g 49 [(1,iv n),(2,pv g7),(5,v2),(6,nv i),(7,p),(8,nv q)]/\St w ([ov [p] (AD (AM c.p2.a):(List ByteArray)),ov [v2] (((AD<|AM c.p2.a).take q).foldl CE (AD<|MV r i):(List ByteArray)),bx g7 [.string r.y,iv r.p3,u1,u3]]) w') ?_ ?_
     ·refine A3 1 Y (show(AD (MV r i):(List ByteArray))=((AD (AM c.p2.a)).take 0).foldl CE (AD (MV r i)) from by rfl) λg w' e b=>⟨_,0,v,?_,Y,e.wk Y,b⟩
      ·omega
     ·rintro m_ g w' ⟨q,v2,hq,rfl,e,b⟩;refine D.use ?_ e b;clear e b g w';have ak:=RA (AD (AM c.p2.a)) (AD (MV r i)) q;refine Cq<|Sr<|P2 Y Y<|q1 Y (B7 0 HJ Y Y Y)<|Pe Y<|Dh [_,_,_] Y<|Cd Y (λa1=>?_) λa1=>?_
      ·refine Sk<|Cq<|Cb<|Cr<|P3 Y Y Y ?_;obtain⟨y0,s⟩:=sI (AD (AM c.p2.a)) q;refine q1 Y (AJ (l:=AD<|AM c.p2.a) (j:=q) HJ Y Y Y (λw' b=>rO (k:=0) b Y) Y<|lS s)<|q1 Y (lo (α:=ByteArray) 0 BK Y Y Y s) (ql qD Y (λw' b=>HR (rO (k:=1) b Y) (by omega)) λv21=>?_);refine p1 Y<|De<|Xb<|Xt<|Dh [ov [v21] (CE (((AD<|AM c.p2.a).take q).foldl CE (AD<|MV r i)) y0:(List ByteArray)),_,_,_] Y<|Cr<|p1 Y<|ad (q+1) Y<|Pe Y<|A3 0 Y (show(CE (((AD (AM c.p2.a)).take q).foldl CE (AD (MV r i))) y0:(List ByteArray))=((AD (AM c.p2.a)).take (q+1)).foldl CE (AD (MV r i)) from by exact PI s) λg w' e b=>⟨_,?_,q+1,v21,?_,Y,e.wk Y,b.pk [1,0,3] Y Y⟩
       ·omega
       ·omega
      ·refine Cx<|Xx<|Xx<|Xe<|Xb<|Xt<|Cr<|p1 Y<|ad (i+1) Y<|Pe Y<|A3 1 Y (show(((AD (AM c.p2.a)).take q).foldl CE (AD (MV r i)):(List ByteArray))=AD (MV r (i+1)) from by exact A5P d (by omega) (by omega)) λg w' e b=>⟨_,?_,i+1,v2,?_,?_,Y,e.wk Y,b.pk [1,2] Y Y⟩
       ·omega
       ·omega
       ·omega
    ·refine Ck<|Xb<|Xt<|Cr<|p1 Y<|ad (i+1) Y<|Pe Y<|A3 0 Y (show(AD (MV r i):(List ByteArray))=AD (MV r (i+1)) from by exact A5Q d (by omega)) λg w' e b=>⟨_,?_,i+1,v,?_,?_,Y,e.wk Y,b⟩
     ·omega
     ·omega
     ·omega
   ·refine Cx<|Xx<|Xx<|Xe<|Xt<|Sr<|PE 2 Y<|Ct (FV Y Y λw' b=>A7 (k:=0) b Y ?_);show AD (MV r i)=AD (DR r n);exact jO (by omega) (by omega)
  ·refine PE 4 Y<|Dh [_,_] Y<|G7 Y<|Cx<|Xx<|Xx<|Xe<|Xt<|Sr<|PE 2 Y<|Ct (FV Y Y λw' b=>A7 (k:=0) b Y ?_);show AD (MV r i)=AD (DR r n);exact jO (by omega) (by omega)
theorem SR{w:World}{f:Value}{l:(List C1L)}(d:Gd.rd w [f] l)(hn:DD BW l<=1048576):Cy 123 [f] w (HH w (aG l l.length:List ByteArray)):=by
 have a1:=rM d;unfold DD at hn;refine enter 18 Tryz.func123 Y Y Y<|Sr<|Pe Y<|Sr<|Pe Y<|Cq<|Sr<|p1 Y<|dl C5F Y (AE d)<|Pe Y<|Cb<|Cl (λz m w'=>∃(k:Nat),∃(v:Value),(k<=l.length)/\z=l.length-k/\Fits m 18 [(3,v),(6,f),(7,nv l.length),(8,nv k)]/\St w ([ov [v] (aG l k:(List ByteArray))]) w') ?_ ?_
 ·refine CG (α:=ByteArray)<|A3 0 Y (show([]:(List ByteArray))=aG l 0 from by rfl) λm w' g b=>⟨_,0,nS,?_,Y,g.wk Y,b⟩
  ·omega
 ·rintro z m w' ⟨k,v,hk,rfl,g,b⟩;refine D.use ?_ g b;clear g b m w';have a6:=ZA l k;refine Sr<|Pe Y<|Dh [_] Y<|Cq<|Cd Y (λp=>?_) λp=>?_
  ·refine Sk<|Cq<|Cb<|Sr ?_;obtain⟨a,e⟩:=sI l k;have a4:=C8 (c:=BW) (List.mem_of_getElem? e);have a5:=BX a;have y:=EF a;have a0:=BO (A6 a);obtain⟨a2,x,h⟩:=AC (n:=5) rfl d e;obtain⟨q,rfl,i⟩:=A8 h;have a3:=rM i;refine q1 Y (AJ (l:=l) (j:=k) C5F Y Y Y (λw' b=>rA b d) Y<|lS e)<|q1 Y (EX C4n Y Y x) (aL C5Q Y λu=>?_);refine li Y<|AZ (vs:=[iv a.s,.string a.p2.p5,q,.string a.t,.string a.p6]) (cs':=[iv a.s,.string a.p2.p5,q,.string a.t,.string a.p6]) 0 C5R Y Y Y Y Y Y (AB Y<|AB Y<|AB (A2 i)<|AB Y<|AB Y BR) (by simp) Y ?_;refine Dx<|Dh [bx u [iv a.s,.string a.p2.p5,q,.string a.t,.string a.p6],_] Y<|Cr<|p1 Y<|q1 Y (C9 0 C4n Y Y Y) (ql qH Y (λw' b=>LC (rA b h) (by omega)) λr=>?_);refine AG [2,0,1] Y<|li Y (PW (α:=ByteArray) (ys:=AD<|A6 a) HJ QZ Y Y Y Y Y Y (λw' b=>rO (k:=1) b Y) (by omega) (by omega) λo=>?_);refine p1 Y<|De<|Xb<|Xt<|Dh [ov [o] ((aG l k)++(AD<|A6 a):(List ByteArray)),ov [r] (AD (A6 a):(List ByteArray)),_] Y<|Cr<|ad (k+1) Y<|Pe Y<|A3 0 Y (show((aG l k)++(AD (A6 a)):(List ByteArray))=aG l (k+1) from by exact qX e) λm w' g b=>⟨_,?_,k+1,o,?_,Y,g.wk Y,b.pk [0] Y Y⟩
   ·omega
   ·omega
  ·refine Cx<|Xx<|Xx<|Xe<|Xt<|Sr<|PE 2 Y<|Ct (FV Y Y λw' b=>A7 (k:=0) b Y ?_);show aG l k=aG l l.length;exact wR (by omega) (by omega)
theorem NN{w:World}{a2:List Value}{r:C1M}{k:Int}{v:ByteArray}(a8:Gd.rd w a2 r)(hn:BG r<=1048576)(hv:BM v=true):Cy 155 [(.agg a2.toArray),(iv k),(.string v)] w (Val w (.bool (PL r k v))):=by
 obtain⟨u1,u3,rfl,m,o⟩:=BC a8;have al:=rM m;have am:=rM o;unfold BG DD at hn;refine enter 42 Tryz.func155 Y Y Y<|Sr (bX Y λg7=>?_);refine Pe Y<|Dh [bx g7 [.string r.y,iv r.p3,u1,u3]] Y<|Cq<|Sr<|fl 0 C4x C5a Y<|dl C5F Y (AE m)<|Pe Y<|Cb<|Cl (λm_ e w'=>∃(q:Nat),(q<=r.q.length)/\(∀a,a<q->SQ r k v a=false)/\m_=r.q.length-q/\Fits e 42 [(1,iv k),(2,.string v),(3,pv g7),(12,u1),(13,nv r.q.length),(14,nv q)]/\St w ([bx g7 [.string r.y,iv r.p3,u1,u3]]) w') ?_ ?_
 ·refine λe w' d b=>⟨_,0,?_,?_,Y,d.wk Y,b⟩
  ·omega
  ·intro a ha;omega
 ·rintro m_ e w' ⟨q,hq,hc,rfl,d,b⟩;refine D.use ?_ d b;clear d b e w';refine Sr<|Pe Y<|Cq<|Cd Y (λa9=>?_) λa9=>?_
  ·refine Sk<|Cq<|Cb<|Sr<|p1 Y ?_;obtain⟨c,f⟩:=sI r.q q;have aq:=IX f;have ar:=BX c;have ap:=C1 c.p2.a;have ao:=BO (AM c.p2.a);have ag:=EF c;have ak:=BO (A6 c);obtain⟨an,a3,u⟩:=AC (n:=5) rfl m f;obtain⟨z,rfl,x⟩:=A8 u;have ah:=rM x;refine q1 Y (AJ (l:=r.q) (j:=q) C5F Y Y Y (λw' b=>rA b m) Y<|lS f)<|q1 Y (EX C4n Y Y a3) (aL C5Q Y λg16=>?_);refine p1 Y<|li Y<|AZ (vs:=[iv c.s,.string c.p2.p5,z,.string c.t,.string c.p6]) (cs':=[iv c.s,.string c.p2.p5,z,.string c.t,.string c.p6]) 0 C5R Y Y Y Y Y Y (AB Y<|AB Y<|AB (A2 x)<|AB Y<|AB Y BR) (by simp) Y ?_;refine Dx<|Dh [bx g16 [iv c.s,.string c.p2.p5,z,.string c.t,.string c.p6],_] Y<|Sr<|P3 Y Y Y<|p1 Y<|gxn 22 Y Y (λa4=>?_) λa4=>?_
   ·refine q1 Y (C9 0 C4n Y Y Y) (ql qH Y (λw' b=>LC (rA b u) (by omega)) λaa=>?_);refine p1 Y<|qv B3W Y (λw' b=>JW<|rO (k:=0) b Y)<|Pe Y<|Dh [ov [aa] (AD (A6 c):(List ByteArray)),_,_] Y<|Ci _ Y (λab=>?_) λab=>?_
    ·refine Sr<|Pe Y<|Ct<|Xq<|Xr<|Xr<|Xq<|Xr<|Rb Y Y ?_;exact jQ f (by omega) ‹_›
    ·refine Ck<|Xb<|Xt<|AH [1,2,3,12,13,14] Y<|AG [2] Y<|Cr<|ad (q+1) Y<|Pe Y λe w' d b=>⟨_,?_,q+1,?_,?_,Y,d.wk Y,b⟩
     ·omega
     ·omega
     ·refine AF hc ?_;exact cC f ‹_›
   ·refine PE 5 Y<|G7 Y<|Ck<|Xb<|Xt<|AH [1,2,3,12,13,14] Y<|AG [1] Y<|Cr<|ad (q+1) Y<|Pe Y λe w' d b=>⟨_,?_,q+1,?_,?_,Y,d.wk Y,b⟩
    ·omega
    ·omega
    ·refine AF hc ?_;exact jS (by omega)
  ·refine Cx<|Xx<|Xx<|Xe<|Xt<|Cq<|Sr<|fl 0 C5B C5s Y<|dl C5g Y (AE o)<|Pe Y<|Cb<|Cl (λm_ e w'=>∃(j:Nat),(j<=r.q0.length)/\(∀i,i<j->∀a,r.q0[i]?=some a->V6 v a=false)/\m_=r.q0.length-j/\Fits e 42 [(2,.string v),(30,u3),(31,nv r.q0.length),(32,nv j)]/\St w ([bx g7 [.string r.y,iv r.p3,u1,u3]]) w') ?_ ?_
   ·refine λe w' d b=>⟨_,0,?_,?_,Y,d.wk Y,b⟩
    ·omega
    ·intro i hi;omega
   ·rintro m_ e w' ⟨j,hj,ha,rfl,d,b⟩;refine D.use ?_ d b;clear d b e w';refine Sr<|Pe Y<|Cq<|Cd Y (λa5=>?_) λa5=>?_
    ·refine Sk<|Cq<|Cb<|Sr ?_;obtain⟨a0,p⟩:=sI r.q0 j;obtain⟨ai,a6,a7⟩:=AC (n:=3) rfl o p;obtain⟨a1,rfl,g⟩:=CH a7;have aj:=rM g;refine q1 Y (AJ (l:=r.q0) (j:=j) C5g Y Y Y (λw' b=>rA b o) Y<|lS p)<|q1 Y (EX C6K Y Y a6) (aL C6I Y λae=>?_);refine li Y<|AZ (vs:=[iv a0.s,.string a0.p2.p5,a1]) (cs':=[iv a0.s,.string a0.p2.p5,a1]) 0 C6U Y Y Y Y Y Y (AB Y<|AB Y<|AB (A2 g) BR) (by simp) Y ?_;refine Dx<|Dh [bx ae [iv a0.s,.string a0.p2.p5,a1],_] Y<|Sr<|q1 Y (Db C5f Y Y (q:=1) Y)<|fl 0 B6C VN Y<|p1 Y<|qv B3W Y (λw' b=>JW<|rA b g)<|Dx<|Ci _ Y (λaf=>?_) λaf=>?_
     ·refine Sr<|Pe Y<|Ct<|Xq<|Xr<|Xr<|Xq<|Xr<|Rb Y Y ?_;exact wT hv p ‹_›
     ·refine Ck<|Xb<|Xt<|Cr<|ad (j+1) Y<|Pe Y λe w' d b=>⟨_,?_,j+1,?_,?_,Y,d.wk Y,b.pk [1] Y Y⟩
      ·omega
      ·omega
      ·refine AF ha ?_;intro y hy;obtain rfl:y=a0:=Option.some.inj (hy.symm.trans p);exact A1o hv ‹_›
    ·refine Cx<|Xx<|Xx<|Xe<|Xt<|Sr<|Pe Y<|Ct<|Rb Y Y ?_;exact A0j (λi h=>hc i (by omega)) (λi h=>ha i (by omega))
theorem RE{w:World}{t:List Value}{r:C1M}{i:Int}{v:ByteArray}(a5:Gd.rd w t r)(hn:BG r<=1048576)(ho:H9 r):Cy 183 [(.agg t.toArray),(iv i),(.string v)] w (Val w (.bool (PL r i v))):=by
 obtain⟨u1,u3,rfl,m,o⟩:=BC a5;have an:=rM m;have ao:=rM o;unfold BG DD at hn;refine enter 45 Tryz.func183 Y Y Y<|Sr (bX Y λg7=>?_);refine Pe Y<|Dh [bx g7 [.string r.y,iv r.p3,u1,u3]] Y<|Cq<|Sr<|Pe Y<|Cb<|Cl (λm_ g w'=>∃(q:Nat),(q<=r.q.length)/\(∀a,a<q->SQ r i v a=false)/\m_=r.q.length-q/\Fits g 45 [(1,iv i),(2,.string v),(3,pv g7),(7,nv q)]/\St w ([bx g7 [.string r.y,iv r.p3,u1,u3]]) w') ?_ ?_
 ·refine λg w' c b=>⟨_,0,?_,?_,Y,c.wk Y,b⟩
  ·omega
  ·intro a ha;omega
 ·rintro m_ g w' ⟨q,hq,hc,rfl,c,b⟩;refine D.use ?_ c b;clear c b g w';refine Cq<|Sr<|p1 Y<|fl 0 C4x C5a Y<|dl C5F Y (AE m)<|Pe Y<|Cd Y (λa6=>?_) λa6=>?_
  ·refine Sk<|Cq<|Cb<|Sr<|P3 Y Y Y<|p1 Y<|gxn 19 Y Y (λa7=>?_) λa7=>?_
   ·refine fl 0 C4x C5a Y<|p1 Y ?_;obtain⟨u,d⟩:=sI r.q q;have aw:=IX d;have ax:=BX u;have av:=C1 u.p2.a;have ar:=BO (AM u.p2.a);have af:=EF u;have am:=BO (A6 u);have aa:=ho.2.2.1 _ (List.mem_of_getElem? d);obtain⟨ag,x,p⟩:=AC (n:=5) rfl m d;obtain⟨ap,rfl,z⟩:=A8 p;have ah:=rM z;refine q1 Y (AJ (l:=r.q) (j:=q) C5F Y Y Y (λw' b=>rA b m) Y<|lS d)<|q1 Y (EX C4n Y Y x) (ql A3I Y (λw' b=>IY (rA b p) (by omega) aa) λau=>?_);refine p1 Y<|qv zL Y (λw' b=>GW<|rO (k:=0) b Y)<|Pe Y<|AH [1,2,3,7,28] Y<|AG [1] Y<|Ci _ Y (λa8=>?_) λa8=>?_
    ·refine Sr<|Pe Y<|Ct<|Xq<|Xr<|Xr<|Xq<|Xr<|Rb Y Y ?_;exact jQ d (by omega) ‹_›
    ·refine Ck<|Xb<|Xt<|Cr<|p1 Y<|ad (q+1) Y<|Pe Y λg w' c b=>⟨_,?_,q+1,?_,?_,Y,c.wk Y,b⟩
     ·omega
     ·omega
     ·refine AF hc ?_;exact cC d ‹_›
   ·refine PE 9 Y<|AH [1,2,3,7,28] Y<|G7 Y<|Ck<|Xb<|Xt<|Cr<|p1 Y<|ad (q+1) Y<|Pe Y λg w' c b=>⟨_,?_,q+1,?_,?_,Y,c.wk Y,b⟩
    ·omega
    ·omega
    ·refine AF hc ?_;exact jS (by omega)
  ·refine Cx<|Xx<|Xx<|Xe<|Xt<|Cq<|Sr<|Pe Y<|Cb<|Cl (λm_ g w'=>∃(j:Nat),(j<=r.q0.length)/\(∀i,i<j->∀a,r.q0[i]?=some a->V6 v a=false)/\m_=r.q0.length-j/\Fits g 45 [(2,.string v),(3,pv g7),(8,nv j)]/\St w ([bx g7 [.string r.y,iv r.p3,u1,u3]]) w') ?_ ?_
   ·refine λg w' c b=>⟨_,0,?_,?_,Y,c.wk Y,b⟩
    ·omega
    ·intro i hi;omega
   ·rintro m_ g w' ⟨j,hj,ha,rfl,c,b⟩;refine D.use ?_ c b;clear c b g w';refine Cq<|Sr<|p1 Y<|fl 0 C5B C5s Y<|dl C5g Y (AE o)<|Pe Y<|Cd Y (λa1=>?_) λa1=>?_
    ·refine Sk<|Cq<|Cb<|Sr<|fl 0 C5B C5s Y<|p1 Y ?_;obtain⟨a0,e⟩:=sI r.q0 j;have ay:=ZD e;have az:=J7 a0;have ai:=C1 a0.p2.a;have aj:=BO (AM a0.p2.a);have ab:=ho.2.2.2 _ (List.mem_of_getElem? e);obtain⟨ak,a2,s⟩:=AC (n:=3) rfl o e;obtain⟨aq,rfl,a3⟩:=CH s;have al:=rM a3;have a4:=A9 s;refine q1 Y (AJ (l:=r.q0) (j:=j) C5g Y Y Y (λw' b=>rA b o) Y<|lS e)<|q1 Y (B2 C5f Y Y)<|q1 Y (EX B8m Y Y<|Q1 (f:=1) (n:=2) a2 Y) (ql zN Y (λw' b=>I8 (rA b a4) (by omega) (by exact ab.2)) λae=>?_);refine p1 Y<|qv zL Y (λw' b=>GW<|rO (k:=0) b Y)<|Dx<|Dh [ov [ae] (AD (AM a0.p2.a):(List ByteArray)),_] Y<|Ci _ Y (λa9=>?_) λa9=>?_
     ·refine Sr<|Pe Y<|Ct<|Xq<|Xr<|Xr<|Xq<|Xr<|Rb Y Y ?_;exact wU e ‹_›
     ·refine Ck<|Xb<|Xt<|Cr<|p1 Y<|ad (j+1) Y<|Pe Y λg w' c b=>⟨_,?_,j+1,?_,?_,Y,c.wk Y,b.pk [1] Y Y⟩
      ·omega
      ·omega
      ·refine AF ha ?_;intro y hy;obtain rfl:y=a0:=Option.some.inj (hy.symm.trans e);exact A1p ‹_›
    ·refine Cx<|Xx<|Xx<|Xe<|Xt<|Sr<|Pe Y<|Ct<|Rb Y Y ?_;exact A0j (λi h=>hc i (by omega)) (λi h=>ha i (by omega))
theorem OR{w:World}{a0:List Value}{r:C1M}{k:Int}(p:Gd.rd w a0 r)(hn:BG r<=1048576)(h0:0<=k)(h1:k<r.q.length):Cy 117 [(.agg a0.toArray),(iv k)] w (Val w (.bool (ZC r k))):=by
 obtain⟨u1,u3,rfl,u,a5⟩:=BC p;have ae:=rM u;have af:=rM a5;have a1:=hn;refine enter 42 Tryz.func117 Y Y Y<|Sr (bX Y λg7=>?_);refine Pe Y<|Dh [bx g7 [.string r.y,iv r.p3,u1,u3]] Y<|Sr<|fl 0 C4x C5a Y<|p1 Y ?_;obtain⟨b,e⟩:=sI r.q (k.toNat);unfold BG DD at hn;have aj:=IX e;have ak:=BX b;have ai:=C1 b.p2.a;have ah:=BO (AM b.p2.a);have a9:=EF b;have ab:=BO (A6 b);obtain⟨ag,a8,m⟩:=AC (n:=5) rfl u e;obtain⟨g,rfl,o⟩:=A8 m;have aa:=rM o;refine q1 Y (AJ (l:=r.q) (j:=k.toNat) C5F Y Y Y (λw' c=>rA c u) (Int.toNat_of_nonneg (by omega)).symm (lS e))<|q1 Y (EX C4n Y Y a8) (aL C5Q Y λg15=>?_);refine li Y<|AZ (vs:=[iv b.s,.string b.p2.p5,g,.string b.t,.string b.p6]) (cs':=[iv b.s,.string b.p2.p5,g,.string b.t,.string b.p6]) 0 C5R Y Y Y Y Y Y (AB Y<|AB Y<|AB (A2 o)<|AB Y<|AB Y BR) (by simp) Y ?_;refine Dx<|Dh [bx g15 [iv b.s,.string b.p2.p5,g,.string b.t,.string b.p6],_] Y<|Sr<|q1 Y (C9 1 C5D Y Y Y)<|p1 Y (ql A3V Y (λw' c=>NM (rA c p) a1) λv=>?_);refine Pe Y<|Dh [ov [v] (AD (DR r k):(List ByteArray)),_,_] Y<|Cq<|Sr<|q1 Y (C9 1 C4n Y Y Y) (ql qH Y (λw' c=>LC (rA c m) (by omega)) λx=>?_);refine q1 Y (B7 0 HJ Y Y Y)<|Pe Y<|Dh [ov [x] (AD (A6 b):(List ByteArray)),_,_,_] Y<|Cb<|Cl (λm_ z w'=>∃(q:Nat),(q<=(AD<|A6 b).length)/\(∀i,i<q->∀y,(AD<|A6 b)[i]?=some y->okV r k b y=true)/\m_=(AD<|A6 b).length-q/\Fits z 42 [(1,iv k),(2,pv g7),(5,pv g15),(6,v),(18,x),(19,nv ((AD<|A6 b).length)),(20,nv q)]/\St w ([ov [x] (AD (A6 b):(List ByteArray)),ov [v] (AD (DR r k):(List ByteArray)),bx g15 [iv b.s,.string b.p2.p5,g,.string b.t,.string b.p6],bx g7 [.string r.y,iv r.p3,u1,u3]]) w') ?_ ?_
 ·refine λz w' f c=>⟨_,0,?_,?_,Y,f.wk Y,c⟩
  ·omega
  ·intro i hi;omega
 ·rintro m_ z w' ⟨q,hq,hi,rfl,f,c⟩;refine D.use ?_ f c;clear f c z w';refine Sr<|Pe Y<|Cq<|Cd Y (λa2=>?_) λa2=>?_
  ·refine Sk<|Cq<|Cb<|Sr ?_;obtain⟨v0,d⟩:=sI (AD (A6 b)) q;refine q1 Y (AJ (l:=AD<|A6 b) (j:=q) HJ Y Y Y (λw' c=>rO (k:=0) c Y) Y<|lS d)<|q1 Y (lo (α:=ByteArray) 0 BK Y Y Y d)<|Pe Y<|Cq<|Sr<|fl 2 C4z CJ Y<|P2 Y Y<|oV 27 Y Y (λa3=>?_) λa3=>?_
   ·refine PE 4 Y<|GF Y<|Cx<|Xx<|Xe<|Xt<|Cr<|ad (q+1) Y<|Pe Y λz w' f c=>⟨_,?_,q+1,?_,?_,Y,f.wk Y,c⟩
    ·omega
    ·omega
    ·refine AF hi ?_;intro y hy;obtain rfl:y=v0:=Option.some.inj (hy.symm.trans d);exact fW (by omega)
   ·refine P2 Y Y<|qv B3W Y (λw' c=>JW<|rO (k:=1) c Y)<|Pe Y<|Ci _ Y (λa6=>?_) λa6=>?_
    ·refine Cx<|Xx<|Xe<|Xt<|Cr<|ad (q+1) Y<|Pe Y λz w' f c=>⟨_,?_,q+1,?_,?_,Y,f.wk Y,c⟩
     ·omega
     ·omega
     ·refine AF hi ?_;intro y hy;obtain rfl:y=v0:=Option.some.inj (hy.symm.trans d);exact T8 ‹_›
    ·refine Sk<|Sr<|fl 2 C4z CJ Y<|P2 Y Y<|gxn 35 Y Y (λa4=>?_) λa4=>?_
     ·refine PE 5 Y<|AH [1,2,5,6,18,19,20,40] Y<|GF Y<|Sr<|Pe Y<|Ct<|Xq<|Xr<|Xr<|Xq<|Xr<|Rb Y Y ?_;exact rK e d (jR (by omega) ‹_› (.inl (by omega)))
     ·refine q1 Y (C9 3 C5D Y Y Y)<|P2 Y Y<|qv A0J Y (λw' c=>NN (rA c p) a1<|A1k<|EW.1<|List.mem_of_getElem? d)<|Pe Y<|AH [1,2,5,6,18,19,20,40] Y<|Ci _ Y (λa7=>?_) λa7=>?_
      ·refine Sr<|Pe Y<|Ct<|Xq<|Xr<|Xr<|Xq<|Xr<|Rb Y Y ?_;exact rK e d (jR (by omega) ‹_› (.inr ‹_›))
      ·refine Ck<|Xb<|Xt<|Cr<|ad (q+1) Y<|Pe Y λz w' f c=>⟨_,?_,q+1,?_,?_,Y,f.wk Y,c⟩
       ·omega
       ·omega
       ·refine AF hi ?_;intro y hy;obtain rfl:y=v0:=Option.some.inj (hy.symm.trans d);exact rI (by omega) ‹_›
  ·refine Cx<|Xx<|Xx<|Xe<|Xt<|Sr<|Pe Y<|Ct<|Rb Y Y ?_;exact A0l e (λi h=>hi i (by omega))
set_option maxHeartbeats 4000000 in
theorem V9{w:World}{a3:List Value}{r:C1M}(ah:Gd.rd w a3 r)(hn:BG r<=1048576)(ho:H9 r):Cy 186 [(.agg a3.toArray)] w (HH w (AD (IB r++SJ r r.q0.length):List ByteArray)):=by
 obtain⟨u1,u3,rfl,m,o⟩:=BC ah;have ay:=rM m;have az:=rM o;unfold BG DD at hn;refine enter 63 Tryz.func186 Y Y Y<|Sr (bX Y λs=>?_);refine Pe Y<|Dh [bx s [.string r.y,iv r.p3,u1,u3]] Y<|Sr<|li Y (FL (α:=ByteArray) HJ Y Y Y λv8=>?_);refine Pe Y<|Dh [ov [v8] ([]:(List ByteArray)),_] Y<|Cq<|Sr<|Pe Y<|Cb<|Cl (λi d w'=>∃(k:Nat),∃(v:Value),(k<=r.q.length)/\i=r.q.length-k/\Fits d 63 [(1,pv s),(3,v),(4,nv k)]/\St w ([ov [v] (AD (Q9 r.q k):(List ByteArray)),bx s [.string r.y,iv r.p3,u1,u3]]) w') ?_ ?_
 ·refine A3 0 Y (show([]:(List ByteArray))=AD (Q9 r.q 0) from by exact rE r.q) λd w' c b=>⟨_,0,v8,?_,Y,c.wk Y,b⟩
  ·omega
 ·rintro i d w' ⟨k,v,hk,rfl,c,b⟩;refine D.use ?_ c b;clear c b d w';have b7:=jP r.q k;have b8:=BO (Q9 r.q k);refine Cq<|Sr<|p1 Y<|fl 1 C4x C5a Y<|dl C5F Y (AE m)<|Pe Y<|Dh [_,_] Y<|Cd Y (λai=>?_) λai=>?_
  ·refine Sk<|Cq<|Cb<|Sr<|fl 1 C4x C5a Y<|p1 Y ?_;obtain⟨e,g⟩:=sI r.q k;have b3:=IX g;have b4:=BX e;have b6:=C1 e.p2.a;have b2:=BO (AM e.p2.a);have am:=EF e;have aw:=BO (A6 e);have aj:=ho.2.2.1 _ (List.mem_of_getElem? g);obtain⟨an,a4,t⟩:=AC (n:=5) rfl m g;obtain⟨b0,rfl,a5⟩:=A8 t;have ao:=rM a5;refine q1 Y (AJ (l:=r.q) (j:=k) C5F Y Y Y (λw' b=>rA b m) Y<|lS g)<|q1 Y (EX C4n Y Y a4) (ql A3I Y (λw' b=>IY (rA b t) (by omega) aj) λa2=>?_);refine Pe Y<|Dh [ov [a2] (AD (A6 e):(List ByteArray)),_,_] Y<|Sr<|Pe Y<|Cb<|Cl (λi d w'=>∃(q:Nat),∃(v2:Value),(q<=(AD<|A6 e).length)/\i=(AD<|A6 e).length-q/\Fits d 63 [(1,pv s),(3,v2),(4,nv k),(5,a2),(6,nv q)]/\St w ([ov [a2] (AD (A6 e):(List ByteArray)),ov [v2] (((AD<|A6 e).take q).foldl CE (AD<|Q9 r.q k):(List ByteArray)),bx s [.string r.y,iv r.p3,u1,u3]]) w') ?_ ?_
   ·refine A3 1 Y (show(AD (Q9 r.q k):(List ByteArray))=((AD (A6 e)).take 0).foldl CE (AD (Q9 r.q k)) from by rfl) λd w' c b=>⟨_,0,v,?_,Y,c.wk Y,b⟩
    ·omega
   ·rintro i d w' ⟨q,v2,hq,rfl,c,b⟩;refine D.use ?_ c b;clear c b d w';have al:=RA (AD (A6 e)) (AD (Q9 r.q k)) q;refine Cq<|Sr<|P2 Y Y<|q1 Y (B7 0 HJ Y Y Y)<|Pe Y<|Dh [_,_,_] Y<|Cd Y (λa6=>?_) λa6=>?_
    ·refine Sk<|Cq<|Cb<|Cr<|P3 Y Y Y ?_;obtain⟨y0,x⟩:=sI (AD (A6 e)) q;refine q1 Y (AJ (l:=AD<|A6 e) (j:=q) HJ Y Y Y (λw' b=>rO (k:=0) b Y) Y<|lS x)<|q1 Y (lo (α:=ByteArray) 0 BK Y Y Y x) (ql qD Y (λw' b=>HR (rO (k:=1) b Y) (by omega)) λa7=>?_);refine p1 Y<|De<|Xb<|Xt<|Dh [ov [a7] (CE (((AD<|A6 e).take q).foldl CE (AD<|Q9 r.q k)) y0:(List ByteArray)),_,_,_] Y<|Cr<|p1 Y<|ad (q+1) Y<|Pe Y<|A3 0 Y (show(CE (((AD (A6 e)).take q).foldl CE (AD (Q9 r.q k))) y0:(List ByteArray))=((AD (A6 e)).take (q+1)).foldl CE (AD (Q9 r.q k)) from by exact PI x) λd w' c b=>⟨_,?_,q+1,a7,?_,Y,c.wk Y,b.pk [1,0,3] Y Y⟩
     ·omega
     ·omega
    ·refine Cx<|Xx<|Xx<|Xe<|Xb<|Xt<|Cr<|p1 Y<|ad (k+1) Y<|Pe Y<|A3 1 Y (show(((AD (A6 e)).take q).foldl CE (AD (Q9 r.q k)):(List ByteArray))=AD (Q9 r.q (k+1)) from by exact A5R g (by omega)) λd w' c b=>⟨_,?_,k+1,v2,?_,Y,c.wk Y,b.pk [1,2] Y Y⟩
     ·omega
     ·omega
  ·refine Cx<|Xx<|Xx<|Xe<|Xt<|Cq<|Sr<|Pe Y<|Cb<|Cl (λi d w'=>∃(j:Nat),∃(v3:Value),(j<=r.q0.length)/\i=r.q0.length-j/\Fits d 63 [(1,pv s),(3,v3),(7,nv j)]/\St w ([ov [v3] (AD (IB r++SJ r j):(List ByteArray)),bx s [.string r.y,iv r.p3,u1,u3]]) w') ?_ ?_
   ·refine A3 0 Y (show(AD (Q9 r.q k):(List ByteArray))=AD (IB r++SJ r 0) from by exact rF (by omega) (by omega)) λd w' c b=>⟨_,0,v,?_,Y,c.wk Y,b⟩
    ·omega
   ·rintro i d w' ⟨j,v3,hj,rfl,c,b⟩;refine D.use ?_ c b;clear c b d w';have ap:=wS r j;have ax:=rH r;have a8:=BO (IB r++SJ r j);rw[List.length_append] at a8;refine Cq<|Sr<|p1 Y<|fl 1 C5B C5s Y<|dl C5g Y (AE o)<|Pe Y<|Dh [_,_] Y<|Cd Y (λa9=>?_) λa9=>?_
    ·refine Sk<|Cq<|Cb<|Sr<|fl 1 C5B C5s Y<|p1 Y ?_;obtain⟨a0,h⟩:=sI r.q0 j;have b5:=ZD h;have b9:=J7 a0;have aq:=C1 a0.p2.a;have ar:=BO (AM a0.p2.a);have ak:=ho.2.2.2 _ (List.mem_of_getElem? h);obtain⟨au,aa,u⟩:=AC (n:=3) rfl o h;obtain⟨b1,rfl,ab⟩:=CH u;have av:=rM ab;have ae:=A9 u;refine q1 Y (AJ (l:=r.q0) (j:=j) C5g Y Y Y (λw' b=>rA b o) Y<|lS h)<|q1 Y (B2 C5f Y Y)<|q1 Y (EX B8m Y Y<|Q1 (f:=1) (n:=2) aa Y) (ql zN Y (λw' b=>I8 (rA b ae) (by omega) (by exact ak.2)) λa1=>?_);refine Pe Y<|Dh [ov [a1] (AD (AM a0.p2.a):(List ByteArray)),_,_] Y<|Sr<|Pe Y<|Cb<|Cl (λi d w'=>∃(p:Nat),∃(v4:Value),(p<=(AD<|AM a0.p2.a).length)/\i=(AD<|AM a0.p2.a).length-p/\Fits d 63 [(1,pv s),(3,v4),(7,nv j),(8,a1),(9,nv p)]/\St w ([ov [a1] (AD (AM a0.p2.a):(List ByteArray)),ov [v4] (((AD<|AM a0.p2.a).take p).foldl CE (AD (IB r++SJ r j)):(List ByteArray)),bx s [.string r.y,iv r.p3,u1,u3]]) w') ?_ ?_
     ·refine A3 1 Y (show(AD (IB r++SJ r j):(List ByteArray))=((AD (AM a0.p2.a)).take 0).foldl CE (AD (IB r++SJ r j)) from by rfl) λd w' c b=>⟨_,0,v3,?_,Y,c.wk Y,b⟩
      ·omega
     ·rintro i d w' ⟨p,v4,hp,rfl,c,b⟩;refine D.use ?_ c b;clear c b d w';have al:=RA (AD (AM a0.p2.a)) (AD (IB r++SJ r j)) p;refine Cq<|Sr<|P2 Y Y<|q1 Y (B7 0 HJ Y Y Y)<|Pe Y<|Dh [_,_,_] Y<|Cd Y (λaf=>?_) λaf=>?_
      ·refine Sk<|Cq<|Cb<|Cr<|P3 Y Y Y ?_;obtain⟨z0,z⟩:=sI (AD (AM a0.p2.a)) p;refine q1 Y (AJ (l:=AD<|AM a0.p2.a) (j:=p) HJ Y Y Y (λw' b=>rO (k:=0) b Y) Y<|lS z)<|q1 Y (lo (α:=ByteArray) 0 BK Y Y Y z) (ql qD Y (λw' b=>HR (rO (k:=1) b Y) (by omega)) λag=>?_);refine p1 Y<|De<|Xb<|Xt<|Dh [ov [ag] (CE (((AD<|AM a0.p2.a).take p).foldl CE (AD (IB r++SJ r j))) z0:(List ByteArray)),_,_,_] Y<|Cr<|p1 Y<|ad (p+1) Y<|Pe Y<|A3 0 Y (show(CE (((AD (AM a0.p2.a)).take p).foldl CE (AD (IB r++SJ r j))) z0:(List ByteArray))=((AD (AM a0.p2.a)).take (p+1)).foldl CE (AD (IB r++SJ r j)) from by exact PI z) λd w' c b=>⟨_,?_,p+1,ag,?_,Y,c.wk Y,b.pk [1,0,3] Y Y⟩
       ·omega
       ·omega
      ·refine Cx<|Xx<|Xx<|Xe<|Xb<|Xt<|Cr<|p1 Y<|ad (j+1) Y<|Pe Y<|A3 1 Y (show(((AD (AM a0.p2.a)).take p).foldl CE (AD (IB r++SJ r j)):(List ByteArray))=AD (IB r++SJ r (j+1)) from by exact A5S h (by omega)) λd w' c b=>⟨_,?_,j+1,v4,?_,Y,c.wk Y,b.pk [1,2] Y Y⟩
       ·omega
       ·omega
    ·refine Cx<|Xx<|Xx<|Xe<|Xt<|Sr<|PE 2 Y<|Ct (FV Y Y λw' b=>A7 (k:=0) b Y ?_);show AD (IB r++SJ r j)=AD (IB r++SJ r r.q0.length);exact rG (by omega) (by omega)
theorem LD{w:World}{e:Value}{l:(List C1M)}{name:ByteArray}(a:Gd.rd w [e] l):Cy 81 [e,(.string name)] w (Val w (iv (BN l name))):=by
 have a1:=rM a;refine enter 20 Tryz.func81 Y Y Y<|Sr<|Pe Y<|Cq<|Sr<|p1 Y<|dl lW Y (AE a)<|Pe Y<|Cb<|Cl (λm_ p w'=>∃(i:Nat),(i<=l.length)/\(∀j,j<i->∀q,l[j]?=some q->q.y≠name)/\m_=l.length-i/\Fits p 20 [(1,.string name),(7,e),(8,nv l.length),(9,nv i)]/\St w ([]) w') ?_ ?_
 ·refine λp w' k d=>⟨_,0,?_,?_,Y,k.wk Y,d⟩
  ·omega
  ·intro j hj;omega
 ·rintro m_ p w' ⟨i,hi,g,rfl,k,d⟩;refine D.use ?_ k d;clear k d p w';refine Sr<|Pe Y<|Cq<|Cd Y (λr=>?_) λr=>?_
  ·refine Sk<|Cq<|Cb<|Sr<|p1 Y ?_;obtain⟨f,b⟩:=sI l i;obtain⟨a2,x,s⟩:=AC (n:=4) rfl a b;obtain⟨t,u,rfl,m,c⟩:=BC s;have z:=rM m;have a0:=rM c;refine q1 Y (AJ (l:=l) (j:=i) lW Y Y Y (λw' d=>rA d a) Y<|lS b)<|q1 Y (EX C5D Y Y x) (aL C5q Y λv=>?_);refine p1 Y<|li Y<|AZ (vs:=[.string f.y,iv f.p3,t,u]) (cs':=[.string f.y,iv f.p3,t,u]) 0 A6M Y Y Y Y Y Y (AB Y<|AB Y<|AB (A2 m)<|AB (A2 c) BR) (by simp) Y ?_;refine Dx<|Dh [bx v [.string f.y,iv f.p3,t,u]] Y<|Sr<|fl 0 C5t BK Y<|p1 Y<|q1 Y (DO Y Y Y)<|Dx<|Cd Y (λo=>?_) λo=>?_
   ·refine Sr<|PE 2 Y<|Ct<|Xq<|Xr<|Xr<|Xq<|Xr<|Ri Y Y ?_;show(((i:Nat):Int):Int)=_;exact qZ b ‹_› g
   ·refine Ck<|Xb<|Xt<|Cr<|ad (i+1) Y<|Pe Y λp w' k d=>⟨_,?_,i+1,?_,?_,Y,k.wk Y,d.pk [] Y Y⟩
    ·omega
    ·omega
    ·refine AF g ?_;intro y hy;obtain rfl:y=f:=Option.some.inj (hy.symm.trans b);assumption
  ·refine Cx<|Xx<|Xx<|Xe<|Xt<|Sr<|Pe Y<|Ct<|Ri Y Y ?_;show((-1):Int)=_;exact rB (λj h=>g j (by omega))
theorem LE{w:World}{d:Value}{l:(List C1M)}{name:ByteArray}(a:Gd.rd w [d] l):Cy 147 [d,(.string name)] w (Val w (iv (BN l name))):=by
 have x:=rM a;refine enter 20 Tryz.func147 Y Y Y<|Sr<|Pe Y<|Cq<|Sr<|Pe Y<|Cb<|Cl (λv m w'=>∃(i:Nat),(i<=l.length)/\(∀j,j<i->∀q,l[j]?=some q->q.y≠name)/\v=l.length-i/\Fits m 20 [(0,d),(1,.string name),(5,nv i)]/\St w ([]) w') ?_ ?_
 ·refine λm w' f c=>⟨_,0,?_,?_,Y,f.wk Y,c⟩
  ·omega
  ·intro j hj;omega
 ·rintro v m w' ⟨i,hi,e,rfl,f,c⟩;refine D.use ?_ f c;clear f c m w';refine Cq<|Sr<|P2 Y Y<|dl lW Y (AE a)<|Pe Y<|Cd Y (λo=>?_) λo=>?_
  ·refine Sk<|Cq<|Cb<|Sr<|P2 Y Y ?_;obtain⟨z,b⟩:=sI l i;obtain⟨a0,s,p⟩:=AC (n:=4) rfl a b;obtain⟨u6,u9,rfl,r,g⟩:=BC p;have t:=rM r;have u:=rM g;refine q1 Y (AJ (l:=l) (j:=i) lW Y Y Y (λw' c=>rA c a) Y<|lS b)<|q1 Y (B2 C5t Y Y)<|q1 Y (lr BK Y Y s Y)<|p1 Y<|q1 Y (DO Y Y Y)<|Dx<|Cd Y (λk=>?_) λk=>?_
   ·refine Sr<|PE 2 Y<|Ct<|Xq<|Xr<|Xr<|Xq<|Xr<|Ri Y Y ?_;show(((i:Nat):Int):Int)=_;exact qZ b ‹_› e
   ·refine Ck<|Xb<|Xt<|Cr<|p1 Y<|ad (i+1) Y<|Pe Y λm w' f c=>⟨_,?_,i+1,?_,?_,Y,f.wk Y,c⟩
    ·omega
    ·omega
    ·refine AF e ?_;intro y hy;obtain rfl:y=z:=Option.some.inj (hy.symm.trans b);assumption
  ·refine Cx<|Xx<|Xx<|Xe<|Xt<|Sr<|Pe Y<|Ct<|Ri Y Y ?_;show((-1):Int)=_;exact rB (λj h=>e j (by omega))
set_option maxHeartbeats 4000000 in
theorem cH{w:World}{a8:List Value}{r:C1M}(x:Gd.rd w a8 r)(hn:BG r<=1048576):Cy 80 [(.agg a8.toArray)] w (Val w (.bool (CR r))):=by
 obtain⟨u1,u3,rfl,f,m⟩:=BC x;have b7:=rM f;have b8:=rM m;have a5:=hn;unfold BG DD at hn;have bg:=ZA r.q r.q.length;refine enter 111 Tryz.func80 Y Y Y<|Sr (bX Y λg7=>?_);refine Pe Y<|Dh [bx g7 [.string r.y,iv r.p3,u1,u3]] Y<|Cq<|Sr<|fl 0 C5t BK Y<|qv A6p Y (λw' b=>EA)<|P2 Y Y<|JQ 14 Y Y (λav=>?_) λav=>?_
 ·refine n1 Y<|n1 Y<|n1 Y<|P2 Y Y<|n1 Y<|n1 Y<|n1 Y<|P2 Y Y<|n1 Y<|n1 Y<|n1 Y<|n1 Y<|P2 Y Y<|n1 Y<|n1 Y<|n1 Y<|n1 Y<|P2 Y Y<|n1 Y<|n1 Y<|n1 Y<|n1 Y<|P2 Y Y<|n1 Y ?_;refine PE 4 Y<|AH [1,47] Y<|GF Y<|Sr<|Pe Y<|Ct<|Xr<|Rb Y Y ?_;exact NI (.inl ‹_›)
 ·refine fl 0 C6L CJ Y<|P3 Y Y Y<|EY 19 Y Y (λaw=>?_) λaw=>?_
  ·refine n1 Y<|n1 Y<|n1 Y<|P2 Y Y<|n1 Y<|n1 Y<|n1 Y<|n1 Y<|P2 Y Y<|n1 Y<|n1 Y<|n1 Y<|n1 Y<|P2 Y Y<|n1 Y<|n1 Y<|n1 Y<|n1 Y<|P2 Y Y<|n1 Y<|n1 Y<|n1 Y<|n1 Y<|p1 Y ?_;refine Dx<|AH [1,47] Y<|GF Y<|Sr<|Pe Y<|Ct<|Xr<|Rb Y Y ?_;exact NI (.inr (.inl (by unfold GO;simp;omega)))
  ·refine fl 0 C6L CJ Y<|P3 Y Y Y<|EY 24 Y Y (λa9=>?_) λa9=>?_
   ·refine PE 23 Y<|AH [1,47] Y<|GF Y ?_;refine Sr<|Pe Y<|Ct<|Xr<|Rb Y Y ?_;exact NI (.inr (.inl (by unfold GO;simp;omega)))
   ·refine fl 0 C4x C5a Y<|dl C5F Y (AE f)<|P3 Y Y Y<|EY 30 Y Y (λaa=>?_) λaa=>?_
    ·refine PE 17 Y<|AH [1,47] Y<|GF Y<|Sr<|Pe Y ?_;refine Ct<|Xr<|Rb Y Y ?_;exact NI (.inr (.inr (.inl (by unfold GO;simp;omega))))
    ·refine fl 0 C4x C5a Y<|dl C5F Y (AE f)<|P3 Y Y Y<|EY 36 Y Y (λab=>?_) λab=>?_
     ·refine PE 11 Y<|AH [1,47] Y<|GF Y<|Sr<|Pe Y<|Ct<|Xr<|Rb Y Y ?_;exact NI (.inr (.inr (.inl (by unfold GO;simp;omega))))
     ·refine fl 0 C5B C5s Y<|dl C5g Y (AE m)<|P3 Y Y Y<|EY 42 Y Y (λae=>?_) λae=>?_
      ·refine PE 5 Y<|AH [1,47] Y<|GF Y<|Sr<|Pe Y<|Ct<|Xr<|Rb Y Y ?_;exact NI (.inr (.inr (.inr (by unfold GO;simp;omega))))
      ·refine fl 0 C5B C5s Y<|dl C5g Y (AE m)<|PE 2 Y<|AH [1,47] Y<|Cd Y (λaf=>?_) λaf=>?_
       ·refine Sr<|Pe Y<|Ct<|Xr<|Rb Y Y ?_;exact NI (.inr (.inr (.inr (by unfold GO;simp;omega))))
       ·refine Sk<|Cq<|Sr<|fl 0 C4x C5a Y<|dl C5F Y (AE f)<|Pe Y<|Cb<|Cl (λm_ e w'=>∃(k:Nat),(k<=r.q.length)/\(∀i,i<k->GP r i=true)/\m_=r.q.length-k/\Fits e 111 [(1,pv g7),(49,u1),(50,nv r.q.length),(51,nv k)]/\St w ([bx g7 [.string r.y,iv r.p3,u1,u3]]) w') ?_ ?_
        ·refine λe w' d b=>⟨_,0,?_,?_,Y,d.wk Y,b⟩
         ·omega
         ·intro i hi;omega
        ·rintro m_ e w' ⟨k,hk,hc,rfl,d,b⟩;refine D.use ?_ d b;clear d b e w';refine Sr<|Pe Y<|Cq<|Cd Y (λag=>?_) λag=>?_
         ·refine Sk<|Cq<|Cb<|Sr<|p1 Y ?_;obtain⟨g,c⟩:=sI r.q k;have ba:=IX c;have bb:=BX g;have bf:=C1 g.p2.a;have b9:=BO (AM g.p2.a);have az:=EF g;have b6:=BO (A6 g);obtain⟨b0,ah,a2⟩:=AC (n:=5) rfl f c;obtain⟨a6,rfl,a3⟩:=A8 a2;have b1:=rM a3;refine q1 Y (AJ (l:=r.q) (j:=k) C5F Y Y Y (λw' b=>rA b f) Y<|lS c)<|q1 Y (EX C4n Y Y ah) (aL C5Q Y λay=>?_);refine p1 Y<|li Y<|AZ (vs:=[iv g.s,.string g.p2.p5,a6,.string g.t,.string g.p6]) (cs':=[iv g.s,.string g.p2.p5,a6,.string g.t,.string g.p6]) 0 C5R Y Y Y Y Y Y (AB Y<|AB Y<|AB (A2 a3)<|AB Y<|AB Y BR) (by simp) Y ?_;refine Dx<|Dh [bx ay [iv g.s,.string g.p2.p5,a6,.string g.t,.string g.p6],_] Y<|Sr<|q1 Y (C9 0 C4n Y Y Y)<|qv A0P Y (λw' b=>NJ<|rA b a2)<|P2 Y Y<|JQ 59 Y Y (λai=>?_) λai=>?_
          ·refine PE 14 Y<|AH [1,49,50,51,73] Y<|AG [1] Y<|GF Y<|Sr<|Pe Y<|Ct ?_;refine Xq<|Xr<|Xr<|Xq<|Xr<|Rb Y Y ?_;exact QF (k:=k) (lS c) (by exact W8 c ‹_›)
          ·refine P3 Y Y Y<|oV 62 Y Y (λaj=>?_) λaj=>?_
           ·refine fl 0 C4z CJ Y<|P3 Y Y Y<|p1 Y<|gxn 68 Y Y (λak=>?_) λak=>?_
            ·refine PE 5 Y<|AH [1,49,50,51,73] Y<|AG [1] Y<|GF Y<|Sr<|Pe Y<|Ct<|Xq<|Xr<|Xr<|Xq<|Xr<|Rb Y Y ?_;exact QF (k:=k) (lS c) (by exact W9 c (by omega) (by omega))
            ·refine q1 Y (C9 1 C5D Y Y Y)<|p1 Y<|qv A0I Y (λw' b=>OR (rA b x) a5 (by omega) ‹_›)<|PE 2 Y<|AH [1,49,50,51,73] Y<|AG [1] Y<|CN Y (λal=>?_) λal=>?_
             ·refine Sr<|Pe Y<|Ct<|Xq<|Xr<|Xr<|Xq<|Xr<|Rb Y Y ?_;exact QF (k:=k) (lS c) (by exact RB c ‹_›)
             ·refine Ck<|Xb<|Xt<|Cr<|ad (k+1) Y<|Pe Y λe w' d b=>⟨_,?_,k+1,?_,?_,Y,d.wk Y,b⟩
              ·omega
              ·omega
              ·refine AF hc ?_;exact T9 c ‹_› (by omega) ‹_›
           ·refine n1 Y<|n1 Y<|n1 Y<|P3 Y Y Y<|q1 Y (C9 1 C5D Y Y Y)<|p1 Y<|qv A0I Y (λw' b=>OR (rA b x) a5 (by omega) ‹_›)<|PE 2 Y<|AH [1,49,50,51,73] Y<|AG [1] Y<|CN Y (λam=>?_) λam=>?_
            ·refine Sr<|Pe Y<|Ct<|Xq<|Xr<|Xr<|Xq<|Xr<|Rb Y Y ?_;exact QF (k:=k) (lS c) (by exact RB c ‹_›)
            ·refine Ck<|Xb<|Xt<|Cr<|ad (k+1) Y<|Pe Y λe w' d b=>⟨_,?_,k+1,?_,?_,Y,d.wk Y,b⟩
             ·omega
             ·omega
             ·refine AF hc ?_;exact T9 c ‹_› (by omega) ‹_›
         ·refine Cx<|Xx<|Xx<|Xe<|Xt<|Sr<|q1 Y (C9 0 C5D Y Y Y)<|fl 0 C4x C5a Y<|dl C5F Y (AE f) (ql A3V Y (λw' b=>NM (rA b x) a5) λv=>?_);refine Pe Y<|Dh [ov [v] (AD (DR r ((r.q.length:Nat):Int)):(List ByteArray)),_] Y<|Cq<|Sr<|fl 1 C5B C5s Y<|dl C5g Y (AE m)<|Pe Y<|Cb<|Cl (λm_ e w'=>∃(j:Nat),(j<=r.q0.length)/\(∀i,i<j->∀a,r.q0[i]?=some a->IG r a=true)/\m_=r.q0.length-j/\Fits e 111 [(1,pv g7),(5,v),(81,u3),(82,nv r.q0.length),(83,nv j)]/\St w ([ov [v] (AD (DR r ((r.q.length:Nat):Int)):(List ByteArray)),bx g7 [.string r.y,iv r.p3,u1,u3]]) w') ?_ ?_
          ·refine λe w' d b=>⟨_,0,?_,?_,Y,d.wk Y,b⟩
           ·omega
           ·intro i hi;omega
          ·rintro m_ e w' ⟨j,hj,ha,rfl,d,b⟩;refine D.use ?_ d b;clear d b e w';refine Sr<|Pe Y<|Cq<|Cd Y (λan=>?_) λan=>?_
           ·refine Sk<|Cq<|Cb<|Sr ?_;obtain⟨a0,o⟩:=sI r.q0 j;have bc:=ZD o;have bh:=J7 a0;have b2:=C1 a0.p2.a;have b3:=BO (AM a0.p2.a);obtain⟨b4,ao,a4⟩:=AC (n:=3) rfl m o;obtain⟨z,rfl,u⟩:=CH a4;have b5:=rM u;refine q1 Y (AJ (l:=r.q0) (j:=j) C5g Y Y Y (λw' b=>rA b m) Y<|lS o)<|q1 Y (EX C6K Y Y ao) (aL C6I Y λap=>?_);refine li Y<|AZ (vs:=[iv a0.s,.string a0.p2.p5,z]) (cs':=[iv a0.s,.string a0.p2.p5,z]) 0 C6U Y Y Y Y Y Y (AB Y<|AB Y<|AB (A2 u) BR) (by simp) Y ?_;refine Dx<|Dh [bx ap [iv a0.s,.string a0.p2.p5,z],_,_] Y<|Cq<|Sr<|q1 Y (C9 0 C6K Y Y Y)<|qv A3W Y (λw' b=>V7<|rA b a4)<|Pe Y<|CN Y (λaq=>?_) λaq=>?_
            ·refine Sr<|Pe Y<|Ct<|Xr<|Xq<|Xr<|Xr<|Xq<|Xr<|Rb Y Y ?_;exact jN o (by exact cF ‹_›)
            ·refine Sk<|Sr<|q1 Y (Db C5f Y Y (q:=1) Y)<|fl 0 B6C VN Y (ql B3V Y (λw' b=>KA (rA b u) (by omega)) λa7=>?_);refine q1 Y (B7 0 HJ Y Y Y)<|Pe Y<|Dh [ov [a7] (AM a0.p2.a:(List ByteArray)),_,_,_] Y<|Cb<|Cl (λm_ e w'=>∃(p:Nat),(p<=(AM a0.p2.a).length)/\(∀i,i<p->∀y,(AM a0.p2.a)[i]?=some y->H1 (AD<|DR r (r.q.length:Int)) y=true)/\m_=(AM a0.p2.a).length-p/\Fits e 111 [(1,pv g7),(5,v),(81,u3),(82,nv r.q0.length),(83,nv j),(93,a7),(94,nv ((AM a0.p2.a).length)),(95,nv p)]/\St w ([ov [a7] (AM a0.p2.a:(List ByteArray)),bx ap [iv a0.s,.string a0.p2.p5,z],ov [v] (AD (DR r ((r.q.length:Nat):Int)):(List ByteArray)),bx g7 [.string r.y,iv r.p3,u1,u3]]) w') ?_ ?_
             ·refine λe w' d b=>⟨_,0,?_,?_,Y,d.wk Y,b⟩
              ·omega
              ·intro i hi;omega
             ·rintro m_ e w' ⟨p,bi,hp,rfl,d,b⟩;refine D.use ?_ d b;clear d b e w';refine Sr<|Pe Y<|Cq<|Cd Y (λar=>?_) λar=>?_
              ·refine Sk<|Cq<|Cb<|Sr ?_;obtain⟨ax,a1⟩:=sI (AM a0.p2.a) p;refine q1 Y (AJ (l:=AM a0.p2.a) (j:=p) HJ Y Y Y (λw' b=>rO (k:=0) b Y) Y<|lS a1)<|q1 Y (lo (α:=ByteArray) 0 BK Y Y Y a1)<|Pe Y<|Sr<|P2 Y Y<|qv B3W Y (λw' b=>JW<|rO (k:=2) b Y)<|Pe Y<|CN Y (λau=>?_) λau=>?_
               ·refine Sr<|Pe Y<|Ct<|Xq<|Xr<|Xr<|Xq<|Xq<|Xr<|Xr<|Xq<|Xr<|Rb Y Y ?_;exact jN o (by exact cG a1 ‹_›)
               ·refine Ck<|Xb<|Xt<|Cr<|ad (p+1) Y<|Pe Y λe w' d b=>⟨_,?_,p+1,?_,?_,Y,d.wk Y,b⟩
                ·omega
                ·omega
                ·refine AF hp ?_;intro y hy;obtain rfl:y=ax:=Option.some.inj (hy.symm.trans a1);assumption
              ·refine Cx<|Xx<|Xx<|Xe<|Xb<|Xt<|Cr<|ad (j+1) Y<|Pe Y λe w' d b=>⟨_,?_,j+1,?_,?_,Y,d.wk Y,b.pk [2,3] Y Y⟩
               ·omega
               ·omega
               ·refine AF ha ?_;intro y hy;obtain rfl:y=a0:=Option.some.inj (hy.symm.trans o);exact wV ‹_› (λi h=>hp i (by omega))
           ·refine Cx<|Xx<|Xx<|Xe<|Xt<|Sr<|fl 1 C4x C5a Y (ql A3M Y (λw' b=>SR (rA b f) (by unfold DD;omega)) λbd=>?_);refine ql A3y Y (λw' b=>IQ (rO (k:=0) b Y) (by omega)) λbe=>?_
            refine q1 Y (B7 0 HJ Y Y Y)<|PE 2 Y<|Ct<|Rb Y Y ?_;show((decide (((((AD (aG r.q r.q.length)).length:Nat):Int):Int)<=6)):Bool)=_;refine A5O ‹_› (by unfold GO;simp;omega) (by unfold GO;simp;omega) (by unfold GO;simp;omega) (λi h=>hc i (by omega)) (λi h=>ha i (by omega)) ?_;rw[A5N];rfl
set_option maxHeartbeats 4000000 in
theorem SK{w:World}{aj:List Value}{r:C1M}(a1:Gd.rd w aj r)(hn:BG r<=1048576)(ho:H9 r):Cy 146 [(.agg aj.toArray)] w (Val w (.bool (CR r))):=by
 obtain⟨u1,u3,rfl,a2,a3⟩:=BC a1;have bj:=rM a2;have bk:=rM a3;have a4:=hn;unfold BG DD at hn;have bt:=ZA r.q r.q.length;refine enter 145 Tryz.func146 Y Y Y<|Sr (bX Y λg7=>?_);refine Pe Y<|Dh [bx g7 [.string r.y,iv r.p3,u1,u3]] Y<|Cq<|Sr<|fl 0 C5t BK Y<|qv B3t Y (λw' b=>EB ho.1)<|P2 Y Y<|JQ 17 Y Y (λb5=>?_) λb5=>?_
 ·refine PE 19 Y<|AH [1,36] Y<|GF Y<|Sr<|p1 Y ?_;refine Dx<|Ct<|Xr<|Rb Y Y ?_;exact NI (.inl ‹_›)
 ·refine fl 0 C6L CJ Y<|qv B3Y Y (λw' b=>E7)<|P3 Y Y Y<|JQ 23 Y Y (λb6=>?_) λb6=>?_
  ·refine PE 13 Y<|AH [1,36] Y<|GF Y<|Sr<|Pe Y<|Ct<|Xr<|Rb Y Y ?_;exact NI (.inr (.inl ‹_›))
  ·refine fl 0 C4x C5a Y<|dl C5F Y (AE a2)<|qv B3Y Y (λw' b=>E7)<|P3 Y Y Y<|JQ 30 Y Y (λak=>?_) λak=>?_
   ·refine PE 6 Y<|AH [1,36] Y<|GF Y<|Sr<|Pe Y<|Ct<|Xr<|Rb Y Y ?_;exact NI (.inr (.inr (.inl ‹_›)))
   ·refine fl 0 C5B C5s Y<|dl C5g Y (AE a3)<|qv B3Y Y (λw' b=>E7)<|PE 2 Y<|AH [1,36] Y<|CN Y (λal=>?_) λal=>?_
    ·refine Sr<|Pe Y<|Ct<|Xr<|Rb Y Y ?_;exact NI (.inr (.inr (.inr ‹_›)))
    ·refine Sk<|Sr<|q1 Y (C9 0 C5D Y Y Y)<|fl 0 C4x C5a Y<|dl C5F Y (AE a2) (ql LP Y (λw' b=>KC (rA b a1) a4 ho) λo=>?_);refine Pe Y<|Dh [ov [o] (AD (DR r ((r.q.length:Nat):Int)):(List ByteArray)),_] Y<|Cq<|Sr<|Pe Y<|Cb<|Cl (λm_ g w'=>∃(k:Nat),(k<=r.q.length)/\(∀i,i<k->GP r i=true)/\m_=r.q.length-k/\Fits g 145 [(1,pv g7),(3,o),(4,nv k)]/\St w ([ov [o] (AD (DR r ((r.q.length:Nat):Int)):(List ByteArray)),bx g7 [.string r.y,iv r.p3,u1,u3]]) w') ?_ ?_
     ·refine λg w' c b=>⟨_,0,?_,?_,Y,c.wk Y,b⟩
      ·omega
      ·intro i hi;omega
     ·rintro m_ g w' ⟨k,hk,hc,rfl,c,b⟩;refine D.use ?_ c b;clear c b g w';refine Cq<|Sr<|p1 Y<|fl 1 C4x C5a Y<|dl C5F Y (AE a2)<|Pe Y<|Cd Y (λam=>?_) λam=>?_
      ·refine Sk<|Cq<|Cb<|Sr<|fl 1 C4x C5a Y<|p1 Y ?_;obtain⟨d,m⟩:=sI r.q k;have bp:=IX m;have bq:=BX d;have bs:=C1 d.p2.a;have bo:=BO (AM d.p2.a);have bb:=EF d;have bi:=BO (A6 d);have a7:=ho.2.2.1 _ (List.mem_of_getElem? m);obtain⟨bc,an,v⟩:=AC (n:=5) rfl a2 m;obtain⟨a5,rfl,aa⟩:=A8 v;have bd:=rM aa;refine q1 Y (AJ (l:=r.q) (j:=k) C5F Y Y Y (λw' b=>rA b a2) Y<|lS m)<|q1 Y (EX C4n Y Y an) (aL C5Q Y λa8=>?_);refine li Y<|AZ (vs:=[iv d.s,.string d.p2.p5,a5,.string d.t,.string d.p6]) (cs':=[iv d.s,.string d.p2.p5,a5,.string d.t,.string d.p6]) 0 C5R Y Y Y Y Y Y (AB Y<|AB Y<|AB (A2 aa)<|AB Y<|AB Y BR) (by simp) Y ?_;refine Dx<|Dh [bx a8 [iv d.s,.string d.p2.p5,a5,.string d.t,.string d.p6],_,_] Y<|Cq<|Sr<|q1 Y (C9 0 C4n Y Y Y)<|qv A3F Y (λw' b=>NK (rA b v) a7)<|P2 Y Y<|JQ 57 Y Y (λao=>?_) λao=>?_
       ·refine PE 8 Y<|AH [1,3,4,5,65] Y<|GF Y<|Sr<|Pe Y<|Ct<|Xr<|Xq<|Xr<|Xr<|Xq<|Xr ?_;refine Rb Y Y ?_;exact QF (k:=k) (lS m) (by exact W8 m ‹_›)
       ·refine P3 Y Y Y<|oV 60 Y Y (λap=>?_) λap=>?_
        ·refine fl 0 C4z CJ Y<|PE 3 Y<|AH [1,3,4,5,65] Y<|Cn Y (λx=>?_) λx=>?_
         ·refine Sr<|Pe Y<|Ct<|Xr<|Xq<|Xr<|Xr<|Xq<|Xr<|Rb Y Y ?_;exact QF (k:=k) (lS m) (by exact W9 m (by omega) (by omega))
         ·refine Sk<|Sr<|q1 Y (C9 2 C5D Y Y Y)<|p1 Y (ql LP Y (λw' b=>KC (rA b a1) a4 ho) λah=>?_);refine Pe Y<|Dh [ov [ah] (AD (DR r ((k:Nat):Int)):(List ByteArray)),_,_,_] Y<|Sr<|q1 Y (C9 1 C4n Y Y Y) (ql A3I Y (λw' b=>IY (rA b v) (by omega) a7) λaf=>?_);refine Pe Y<|Dh [ov [af] (AD (A6 d):(List ByteArray)),_,_,_,_] Y<|Sr<|Pe Y<|Cb<|Cl (λm_ g w'=>∃(q:Nat),(q<=(AD<|A6 d).length)/\(∀i,i<q->∀y,(AD<|A6 d)[i]?=some y->okV r (k:Int) d y=true)/\m_=(AD<|A6 d).length-q/\Fits g 145 [(1,pv g7),(3,o),(4,nv k),(5,pv a8),(6,ah),(7,af),(8,nv q)]/\St w ([ov [af] (AD (A6 d):(List ByteArray)),ov [ah] (AD (DR r ((k:Nat):Int)):(List ByteArray)),bx a8 [iv d.s,.string d.p2.p5,a5,.string d.t,.string d.p6],ov [o] (AD (DR r ((r.q.length:Nat):Int)):(List ByteArray)),bx g7 [.string r.y,iv r.p3,u1,u3]]) w') ?_ ?_
          ·refine λg w' c b=>⟨_,0,?_,?_,Y,c.wk Y,b⟩
           ·omega
           ·intro i hi;omega
          ·rintro m_ g w' ⟨q,hq,u,rfl,c,b⟩;refine D.use ?_ c b;clear c b g w';refine Cq<|Sr<|P2 Y Y<|q1 Y (B7 0 HJ Y Y Y)<|Pe Y<|Cd Y (λaq=>?_) λaq=>?_
           ·refine Sk<|Cq<|Cb<|Sr<|P3 Y Y Y ?_;obtain⟨v0,e⟩:=sI (AD (A6 d)) q;refine q1 Y (AJ (l:=AD<|A6 d) (j:=q) HJ Y Y Y (λw' b=>rO (k:=0) b Y) Y<|lS e)<|q1 Y (lo (α:=ByteArray) 0 BK Y Y Y e)<|qv zL Y (λw' b=>GW<|rO (k:=1) b Y)<|Pe Y<|Cq<|A0 mixed [1,2,3,4,5,6,7,8,9,10,11,12,13,14,21,22,23] (by kernel_rfl)<|Tk 0 Y Y (C9 2 C4n Y Y Y)<|ty 1 Y Y<|cv A3n Y Y Y Y (λw' b=>NL (rA b v) a7) ?_;refine tZ Y<|tW 2 Y Y Y<|gs 85 Y Y (λb7=>?_) λb7=>?_
            ·refine tW 3 Y Y Y<|tW 4 Y Y Y<|tW 5 Y Y Y<|tW 6 Y Y Y<|JQ 89 Y Y (λar=>?_) λar=>?_
             ·refine tK 1 [7,8,9,10,11,12,13,14,15,16,17,18,19,20,21,22] Y<|tW 23 Y Y Y<|tE<|Xt<|AH [1,3,4,5,6,7,8,106] Y<|GF Y<|Sr<|p1 Y ?_;refine Dx<|Ct<|Xq<|Xr<|Xr<|Xq<|Xq<|Xr<|Xr<|Xq<|Xr<|Rb Y Y ?_;exact QF (k:=k) (lS m) (by exact PM m e (rJ ‹_› ‹_›))
             ·refine ty 7 Y Y<|sv Y Y (Db C4z Y Y (q:=0) Y) ?_;refine tZ Y<|ty 8 Y Y<|sv Y Y (lb 2 CJ Y Y Y Y) ?_;refine tZ Y<|tW 9 Y Y Y<|tW 10 Y Y Y<|gkf 93 Y Y (YI x Y) ?_;have bl:((d.s:Int)==2)=false:=(YI x rfl);refine tK 11 [11,12] Y<|tW 13 Y Y Y<|tW 14 Y Y Y<|tK 2 [15,16,17,18,19,20,21] Y<|tW 22 Y Y Y<|tW 23 Y Y Y<|tE<|Xt<|AH [1,3,4,5,6,7,8,106] Y<|G7 Y<|Ck<|Xb<|Xt<|Cr<|p1 Y<|ad (q+1) Y<|p1 Y ?_;refine Dx λg w' c b=>⟨_,?_,q+1,?_,?_,Y,c.wk Y,b⟩
              ·omega
              ·omega
              ·refine AF u ?_;intro y hy;obtain rfl:y=v0:=Option.some.inj (hy.symm.trans e);exact T8 ‹_›
            ·refine tK 19 [3,4] Y<|tW 5 Y Y Y<|tW 6 Y Y Y<|ty 7 Y Y<|sv Y Y (Db C4z Y Y (q:=0) Y) ?_;refine tZ Y<|ty 8 Y Y<|sv Y Y (lb 2 CJ Y Y Y Y) ?_;refine tZ Y<|tW 9 Y Y Y<|tW 10 Y Y Y<|gkf 93 Y Y (YI x Y) ?_;have bm:((d.s:Int)==2)=false:=(YI x rfl);refine tK 11 [11,12] Y<|tW 13 Y Y Y<|tW 14 Y Y Y<|tK 2 [15,16,17,18,19,20,21] Y<|tW 22 Y Y Y<|tW 23 Y Y Y<|tE<|Xt<|AH [1,3,4,5,6,7,8,106] Y<|G7 Y<|Ck<|Xb<|Xt<|Cr<|p1 Y<|ad (q+1) Y<|p1 Y ?_;refine Dx λg w' c b=>⟨_,?_,q+1,?_,?_,Y,c.wk Y,b⟩
             ·omega
             ·omega
             ·refine AF u ?_;intro y hy;obtain rfl:y=v0:=Option.some.inj (hy.symm.trans e);exact fX ‹_› ‹_› (.inl (by omega))
           ·refine Cx<|Xx<|Xx<|Xe<|Xb<|Xt<|Cr<|p1 Y<|ad (k+1) Y<|Pe Y λg w' c b=>⟨_,?_,k+1,?_,?_,Y,c.wk Y,b.pk [3,4] Y Y⟩
            ·omega
            ·omega
            ·refine AF hc ?_;exact W7 m ‹_› (by omega) (λi h=>u i (by omega))
        ·refine PE 5 Y<|AH [1,3,4,5,65] Y<|G7 Y<|Sk<|Sr<|q1 Y (C9 2 C5D Y Y Y)<|p1 Y (ql LP Y (λw' b=>KC (rA b a1) a4 ho) λag=>?_);refine Pe Y<|Dh [ov [ag] (AD (DR r ((k:Nat):Int)):(List ByteArray)),_,_,_] Y<|Sr<|q1 Y (C9 1 C4n Y Y Y) (ql A3I Y (λw' b=>IY (rA b v) (by omega) a7) λv37=>?_);refine Pe Y<|Dh [ov [v37] (AD (A6 d):(List ByteArray)),_,_,_,_] Y<|Sr<|Pe Y<|Cb<|Cl (λm_ g w'=>∃(q:Nat),(q<=(AD<|A6 d).length)/\(∀i,i<q->∀y,(AD<|A6 d)[i]?=some y->okV r (k:Int) d y=true)/\m_=(AD<|A6 d).length-q/\Fits g 145 [(1,pv g7),(3,o),(4,nv k),(5,pv a8),(6,ag),(7,v37),(8,nv q)]/\St w ([ov [v37] (AD (A6 d):(List ByteArray)),ov [ag] (AD (DR r ((k:Nat):Int)):(List ByteArray)),bx a8 [iv d.s,.string d.p2.p5,a5,.string d.t,.string d.p6],ov [o] (AD (DR r ((r.q.length:Nat):Int)):(List ByteArray)),bx g7 [.string r.y,iv r.p3,u1,u3]]) w') ?_ ?_
         ·refine λg w' c b=>⟨_,0,?_,?_,Y,c.wk Y,b⟩
          ·omega
          ·intro i hi;omega
         ·rintro m_ g w' ⟨q,hq,u,rfl,c,b⟩;refine D.use ?_ c b;clear c b g w';refine Cq<|Sr<|P2 Y Y<|q1 Y (B7 0 HJ Y Y Y)<|Pe Y<|Cd Y (λau=>?_) λau=>?_
          ·refine Sk<|Cq<|Cb<|Sr<|P3 Y Y Y ?_;obtain⟨v0,e⟩:=sI (AD (A6 d)) q;refine q1 Y (AJ (l:=AD<|A6 d) (j:=q) HJ Y Y Y (λw' b=>rO (k:=0) b Y) Y<|lS e)<|q1 Y (lo (α:=ByteArray) 0 BK Y Y Y e)<|qv zL Y (λw' b=>GW<|rO (k:=1) b Y)<|Pe Y<|Cq<|A0 mixed [1,2,3,4,5,6,7,8,9,10,11,12,13,14,21,22,23] (by kernel_rfl)<|Tk 0 Y Y (C9 2 C4n Y Y Y)<|ty 1 Y Y<|cv A3n Y Y Y Y (λw' b=>NL (rA b v) a7) ?_;refine tZ Y<|tW 2 Y Y Y<|gs 85 Y Y (λb8=>?_) λb8=>?_
           ·refine tW 3 Y Y Y<|tW 4 Y Y Y<|tW 5 Y Y Y<|tW 6 Y Y Y<|JQ 89 Y Y (λab=>?_) λab=>?_
            ·refine tK 1 [7,8,9,10,11,12,13,14,15,16,17,18,19,20,21,22] Y<|tW 23 Y Y Y<|tE<|Xt<|AH [1,3,4,5,6,7,8,106] Y<|GF Y<|Sr<|p1 Y ?_;refine Dx<|Ct<|Xq<|Xr<|Xr<|Xq<|Xq<|Xr<|Xr<|Xq<|Xr<|Rb Y Y ?_;exact QF (k:=k) (lS m) (by exact PM m e (rJ ‹_› ‹_›))
            ·refine ty 7 Y Y<|sv Y Y (Db C4z Y Y (q:=0) Y) ?_;refine tZ Y<|ty 8 Y Y<|sv Y Y (lb 2 CJ Y Y Y Y) ?_;refine tZ Y<|tW 9 Y Y Y<|tW 10 Y Y Y<|oV 93 Y Y (λav=>?_) λav=>?_
             ·refine tW 11 Y Y Y<|tW 12 Y Y Y<|tW 13 Y Y Y<|tW 14 Y Y Y<|gkf 97 Y Y (TI ab)<|tK 2 [15,16,17,18,19,20,21] Y<|tW 22 Y Y Y<|tW 23 Y Y Y<|tE<|Xt<|AH [1,3,4,5,6,7,8,106] Y<|G7 Y<|Ck<|Xb<|Xt<|Cr<|p1 Y<|ad (q+1) Y ?_;refine Pe Y λg w' c b=>⟨_,?_,q+1,?_,?_,Y,c.wk Y,b⟩
              ·omega
              ·omega
              ·refine AF u ?_;intro y hy;obtain rfl:y=v0:=Option.some.inj (hy.symm.trans e);exact T8 ‹_›
             ·refine tK 11 [11,12] Y<|tW 13 Y Y Y<|tW 14 Y Y Y<|tK 2 [15,16,17,18,19,20,21] Y<|tW 22 Y Y Y<|tW 23 Y Y Y<|tE<|Xt<|AH [1,3,4,5,6,7,8,106] Y<|G7 Y<|Ck<|Xb<|Xt<|Cr<|p1 Y<|ad (q+1) Y<|p1 Y ?_;refine Dx λg w' c b=>⟨_,?_,q+1,?_,?_,Y,c.wk Y,b⟩
              ·omega
              ·omega
              ·refine AF u ?_;intro y hy;obtain rfl:y=v0:=Option.some.inj (hy.symm.trans e);exact T8 ‹_›
           ·refine tK 19 [3,4] Y<|tW 5 Y Y Y<|tW 6 Y Y Y<|ty 7 Y Y<|sv Y Y (Db C4z Y Y (q:=0) Y) ?_;refine tZ Y<|ty 8 Y Y<|sv Y Y (lb 2 CJ Y Y Y Y) ?_;refine tZ Y<|tW 9 Y Y Y<|tW 10 Y Y Y<|oV 93 Y Y (λaw=>?_) λaw=>?_
            ·refine tW 11 Y Y Y<|tW 12 Y Y Y<|tW 13 Y Y Y<|tW 14 Y Y Y<|JQ 97 Y Y (λax=>?_) λax=>?_
             ·refine Tk 15 Y Y (C9 4 C5D Y Y Y)<|tK 5 [16,17,18] Y<|Tk 19 Y Y (AJ (l:=AD<|A6 d) (j:=q) HJ Y Y Y (λw' b=>rO (k:=0) b Y) Y<|lS e)<|Tk 20 Y Y (lo (α:=ByteArray) 0 BK Y Y Y e)<|ty 21 Y Y<|cv A3G Y Y Y Y (λw' b=>RE (rA b a1) a4 ho) ?_;refine tZ Y<|tW 22 Y Y Y<|tW 23 Y Y Y<|tE<|Xt<|AH [1,3,4,5,6,7,8,106] Y<|Ci _ Y (λb9=>?_) λb9=>?_
              ·refine Sr<|Pe Y<|Ct<|Xq<|Xr<|Xr<|Xq<|Xq<|Xr<|Xr<|Xq<|Xr<|Rb Y Y ?_;exact QF (k:=k) (lS m) (by exact PM m e (jR (by omega) ‹_› (.inr ‹_›)))
              ·refine Ck<|Xb<|Xt<|Cr<|p1 Y<|ad (q+1) Y<|Pe Y λg w' c b=>⟨_,?_,q+1,?_,?_,Y,c.wk Y,b⟩
               ·omega
               ·omega
               ·refine AF u ?_;intro y hy;obtain rfl:y=v0:=Option.some.inj (hy.symm.trans e);exact fX ‹_› ‹_› (.inr ‹_›)
             ·refine tK 2 [15,16,17,18,19,20,21] Y<|tW 22 Y Y Y<|tW 23 Y Y Y<|tE<|Xt<|AH [1,3,4,5,6,7,8,106] Y<|G7 Y<|Ck<|Xb<|Xt<|Cr<|p1 Y<|ad (q+1) Y<|Pe Y λg w' c b=>⟨_,?_,q+1,?_,?_,Y,c.wk Y,b⟩
              ·omega
              ·omega
              ·refine AF u ?_;intro y hy;obtain rfl:y=v0:=Option.some.inj (hy.symm.trans e);exact T8 ‹_›
            ·refine tK 11 [11,12] Y<|tW 13 Y Y Y<|tW 14 Y Y Y<|tK 2 [15,16,17,18,19,20,21] Y<|tW 22 Y Y Y<|tW 23 Y Y Y<|tE<|Xt<|AH [1,3,4,5,6,7,8,106] Y<|G7 Y<|Ck<|Xb<|Xt<|Cr<|p1 Y<|ad (q+1) Y<|p1 Y ?_;refine Dx λg w' c b=>⟨_,?_,q+1,?_,?_,Y,c.wk Y,b⟩
             ·omega
             ·omega
             ·refine AF u ?_;intro y hy;obtain rfl:y=v0:=Option.some.inj (hy.symm.trans e);exact fX ‹_› ‹_› (.inl (by omega))
          ·refine Cx<|Xx<|Xx<|Xe<|Xb<|Xt<|Cr<|p1 Y<|ad (k+1) Y<|Pe Y λg w' c b=>⟨_,?_,k+1,?_,?_,Y,c.wk Y,b.pk [3,4] Y Y⟩
           ·omega
           ·omega
           ·refine AF hc ?_;exact W7 m ‹_› (by omega) (λi h=>u i (by omega))
      ·refine Cx<|Xx<|Xx<|Xe<|Xt<|Cq<|Sr<|Pe Y<|Cb<|Cl (λm_ g w'=>∃(j:Nat),(j<=r.q0.length)/\(∀i,i<j->∀a,r.q0[i]?=some a->IG r a=true)/\m_=r.q0.length-j/\Fits g 145 [(1,pv g7),(3,o),(10,nv j)]/\St w ([ov [o] (AD (DR r ((r.q.length:Nat):Int)):(List ByteArray)),bx g7 [.string r.y,iv r.p3,u1,u3]]) w') ?_ ?_
       ·refine λg w' c b=>⟨_,0,?_,?_,Y,c.wk Y,b⟩
        ·omega
        ·intro i hi;omega
       ·rintro m_ g w' ⟨j,hj,ha,rfl,c,b⟩;refine D.use ?_ c b;clear c b g w';refine Cq<|Sr<|p1 Y<|fl 1 C5B C5s Y<|dl C5g Y (AE a3)<|Pe Y<|Cd Y (λay=>?_) λay=>?_
        ·refine Sk<|Cq<|Cb<|Cq<|Sr<|fl 1 C5B C5s Y<|p1 Y ?_;obtain⟨a0,z⟩:=sI r.q0 j;have br:=ZD z;have bu:=J7 a0;have be:=C1 a0.p2.a;have bf:=BO (AM a0.p2.a);have b4:=ho.2.2.2 _ (List.mem_of_getElem? z);obtain⟨bg,ae,a6⟩:=AC (n:=3) rfl a3 z;obtain⟨bn,rfl,az⟩:=CH a6;have bh:=rM az;have b0:=A9 a6;refine q1 Y (AJ (l:=r.q0) (j:=j) C5g Y Y Y (λw' b=>rA b a3) Y<|lS z)<|q1 Y (EX C6K Y Y ae)<|qv A3J Y (λw' b=>V8 (rA b a6) b4)<|Pe Y<|CN Y (λb1=>?_) λb1=>?_
         ·refine Sr<|Pe Y<|Ct<|Xr<|Xq<|Xr<|Xr<|Xq<|Xr<|Rb Y Y ?_;exact jN z (by exact cF ‹_›)
         ·refine Sk<|Sr<|fl 1 C5B C5s Y<|p1 Y<|q1 Y (AJ (l:=r.q0) (j:=j) C5g Y Y Y (λw' b=>rA b a3) Y<|lS z)<|q1 Y (B2 C5f Y Y)<|q1 Y (EX B8m Y Y<|Q1 (f:=1) (n:=2) ae Y) (ql zN Y (λw' b=>I8 (rA b b0) (by omega) (by exact b4.2)) λai=>?_);refine Pe Y<|AH [1,3,10,11] Y<|Dh [ov [ai] (AD (AM a0.p2.a):(List ByteArray)),_,_] Y<|Sr<|Pe Y<|Cb<|Cl (λm_ g w'=>∃(p:Nat),(p<=(AD<|AM a0.p2.a).length)/\(∀i,i<p->∀y,(AD<|AM a0.p2.a)[i]?=some y->H1 (AD<|DR r (r.q.length:Int)) y=true)/\m_=(AD<|AM a0.p2.a).length-p/\Fits g 145 [(1,pv g7),(3,o),(10,nv j),(11,ai),(12,nv p)]/\St w ([ov [ai] (AD (AM a0.p2.a):(List ByteArray)),ov [o] (AD (DR r ((r.q.length:Nat):Int)):(List ByteArray)),bx g7 [.string r.y,iv r.p3,u1,u3]]) w') ?_ ?_
          ·refine λg w' c b=>⟨_,0,?_,?_,Y,c.wk Y,b⟩
           ·omega
           ·intro i hi;omega
          ·rintro m_ g w' ⟨p,bv,hp,rfl,c,b⟩;refine D.use ?_ c b;clear c b g w';refine Cq<|Sr<|P2 Y Y<|q1 Y (B7 0 HJ Y Y Y)<|Pe Y<|Cd Y (λb2=>?_) λb2=>?_
           ·refine Sk<|Cq<|Cb<|Sr<|P3 Y Y Y ?_;obtain⟨ba,a9⟩:=sI (AD (AM a0.p2.a)) p;refine q1 Y (AJ (l:=AD<|AM a0.p2.a) (j:=p) HJ Y Y Y (λw' b=>rO (k:=0) b Y) Y<|lS a9)<|q1 Y (lo (α:=ByteArray) 0 BK Y Y Y a9)<|qv zL Y (λw' b=>GW<|rO (k:=1) b Y)<|Pe Y<|CN Y (λb3=>?_) λb3=>?_
            ·refine Sr<|Pe Y<|Ct<|Xq<|Xr<|Xr<|Xq<|Xq<|Xr<|Xr<|Xq<|Xr<|Rb Y Y ?_;exact jN z (by exact mI a9 ‹_›)
            ·refine Ck<|Xb<|Xt<|Cr<|p1 Y<|ad (p+1) Y<|Pe Y λg w' c b=>⟨_,?_,p+1,?_,?_,Y,c.wk Y,b⟩
             ·omega
             ·omega
             ·refine AF hp ?_;intro y hy;obtain rfl:y=ba:=Option.some.inj (hy.symm.trans a9);assumption
           ·refine Cx<|Xx<|Xx<|Xe<|Xb<|Xt<|Cr<|p1 Y<|ad (j+1) Y<|Pe Y λg w' c b=>⟨_,?_,j+1,?_,?_,Y,c.wk Y,b.pk [1,2] Y Y⟩
            ·omega
            ·omega
            ·refine AF ha ?_;intro y hy;obtain rfl:y=a0:=Option.some.inj (hy.symm.trans z);exact rL ‹_› (λi h=>hp i (by omega))
        ·refine Cx<|Xx<|Xx<|Xe<|Xt<|Sr<|q1 Y (C9 1 C5D Y Y Y) (ql A3H Y (λw' b=>V9 (rA b a1) a4 ho) λbw=>?_);refine q1 Y (B7 0 HJ Y Y Y)<|PE 2 Y<|Ct<|Rb Y Y ?_;show((decide (((((AD (IB r++SJ r r.q0.length)).length:Nat):Int):Int)<=6)):Bool)=_;refine A5O ‹_› ‹_› ‹_› ‹_› (λi h=>hc i (by omega)) (λi h=>ha i (by omega)) ?_;exact A1n (λi h=>ha i (by omega))
theorem OS{w:World}{e:Value}{l:(List C1M)}(b:Gd.rd w [e] l)(hn:DD BG l<=1048576):Cy 41 [e] w (Val w (.bool (AR l))):=by
 have a1:=rM b;unfold DD at hn;refine enter 27 Tryz.func41 Y Y Y<|Sr<|Pe Y<|Cq<|Sr<|p1 Y<|dl lW Y (AE b)<|Pe Y<|Cd Y (λs=>?_) λs=>?_
 ·refine Sr<|Pe Y<|Ct<|Xr<|Rb Y Y ?_;exact A1l (by omega)
 ·refine Sk<|Cq<|Sr<|p1 Y<|dl lW Y (AE b)<|Pe Y<|Cb<|Cl (λm_ r w'=>∃(i:Nat),(i<=l.length)/\(∀j,j<i->JR l j=true)/\m_=l.length-i/\Fits r 27 [(0,e),(8,e),(9,nv l.length),(10,nv i)]/\St w ([]) w') ?_ ?_
  ·refine λr w' k d=>⟨_,0,?_,?_,Y,k.wk Y,d⟩
   ·omega
   ·intro j hj;omega
  ·rintro m_ r w' ⟨i,hi,hr,rfl,k,d⟩;refine D.use ?_ k d;clear k d r w';refine Sr<|Pe Y<|Cq<|Cd Y (λt=>?_) λt=>?_
   ·refine Sk<|Cq<|Cb<|Sr<|p1 Y ?_;obtain⟨g,a⟩:=sI l i;have a3:=C8 (c:=BG) (List.mem_of_getElem? a);obtain⟨a2,at5,m⟩:=AC (n:=4) rfl b a;obtain⟨u,v,rfl,o,f⟩:=BC m;have z:=rM o;have a0:=rM f;refine q1 Y (AJ (l:=l) (j:=i) lW Y Y Y (λw' d=>rA d b) Y<|lS a)<|q1 Y (EX C5D Y Y at5) (aL C5q Y λx=>?_);refine p1 Y<|li Y<|AZ (vs:=[.string g.y,iv g.p3,u,v]) (cs':=[.string g.y,iv g.p3,u,v]) 0 A6M Y Y Y Y Y Y (AB Y<|AB Y<|AB (A2 o)<|AB (A2 f) BR) (by simp) Y ?_;refine Dx<|Dh [bx x [.string g.y,iv g.p3,u,v]] Y<|Sr<|q1 Y (C9 0 C5D Y Y Y)<|qv A3l Y (λw' d=>cH (rA d m) (by omega))<|P2 Y Y<|JQ 18 Y Y (λp=>?_) λp=>?_
    ·refine PE 7 Y<|AH [0,8,9,10,25] Y<|AG [] Y<|GF Y<|Sr<|Pe Y<|Ct<|Xq<|Xr<|Xr<|Xq<|Xr<|Rb Y Y ?_;exact ZB (lS a) (bZ a ‹_›)
    ·refine p1 Y<|fl 0 C5t BK Y<|qv A7I Y (λw' d=>LD<|rA d b)<|PE 3 Y<|AH [0,8,9,10,25] Y<|AG [] Y<|Cn Y (λq=>?_) λq=>?_
     ·refine Sr<|Pe Y<|Ct<|Xq<|Xr<|Xr<|Xq<|Xr<|Rb Y Y ?_;exact ZB (lS a) (cA a (by omega))
     ·refine Ck<|Xb<|Xt<|Cr<|ad (i+1) Y<|Pe Y λr w' k d=>⟨_,?_,i+1,?_,?_,Y,k.wk Y,d⟩
      ·omega
      ·omega
      ·refine AF hr ?_;exact jM a ‹_› (by omega)
   ·refine Cx<|Xx<|Xx<|Xe<|Xt<|Sr<|Pe Y<|Ct<|Rb Y Y ?_;exact A1q (by omega) (λj h=>hr j (by omega))
theorem LF{w:World}{e:Value}{l:(List C1M)}(b:Gd.rd w [e] l)(y:DD BG l<=1048576)(z:LR H9 l):Cy 107 [e] w (Val w (.bool (AR l))):=by
 have a0:=rM b;unfold DD at y;refine enter 30 Tryz.func107 Y Y Y<|Sr<|Pe Y<|Cq<|Sr<|Pe Y<|Cb<|Cl (λv p w'=>∃(i:Nat),(i<=l.length)/\(∀j,j<i->JR l j=true)/\v=l.length-i/\Fits p 30 [(0,e),(3,nv i)]/\St w ([]) w') ?_ ?_
 ·refine λp w' f d=>⟨_,0,?_,?_,Y,f.wk Y,d⟩
  ·omega
  ·intro j hj;omega
 ·rintro v p w' ⟨i,hi,x,rfl,f,d⟩;refine D.use ?_ f d;clear f d p w';refine Cq<|Sr<|P2 Y Y<|dl lW Y (AE b)<|Pe Y<|Cd Y (λr=>?_) λr=>?_
  ·refine Sk<|Cq<|Cb<|Sr<|P2 Y Y ?_;obtain⟨q0,a⟩:=sI l i;have a2:=C8 (c:=BG) (List.mem_of_getElem? a);obtain⟨a1,q,g⟩:=AC (n:=4) rfl b a;obtain⟨u6,u9,rfl,s,k⟩:=BC g;have t:=rM s;have u:=rM k;refine q1 Y (AJ (l:=l) (j:=i) lW Y Y Y (λw' d=>rA d b) Y<|lS a)<|q1 Y (EX C5D Y Y q)<|qv pX Y (λw' d=>SK (rA d g) (by omega)<|z _<|List.mem_of_getElem? a)<|P2 Y Y<|JQ 16 Y Y (λm=>?_) λm=>?_
   ·refine PE 10 Y<|AH [0,3,26] Y<|GF Y<|Sr<|Pe Y<|Ct<|Xq<|Xr<|Xr<|Xq ?_;refine Xr<|Rb Y Y ?_;exact ZB (lS a) (bZ a ‹_›)
   ·refine P3 Y Y Y<|q1 Y (AJ (l:=l) (j:=i) lW Y Y Y (λw' d=>rA d b) Y<|lS a)<|q1 Y (B2 C5t Y Y)<|q1 Y (lr BK Y Y q Y)<|qv A0N Y (λw' d=>LE<|rA d b)<|PE 3 Y<|AH [0,3,26] Y<|Cn Y (λo=>?_) λo=>?_
    ·refine Sr<|Pe Y<|Ct<|Xq<|Xr<|Xr<|Xq<|Xr<|Rb Y Y ?_;exact ZB (lS a) (cA a (by omega))
    ·refine Ck<|Xb<|Xt<|Cr<|p1 Y<|ad (i+1) Y<|Pe Y λp w' f d=>⟨_,?_,i+1,?_,?_,Y,f.wk Y,d⟩
     ·omega
     ·omega
     ·refine AF x ?_;exact jM a ‹_› (by omega)
  ·refine Cx<|Xx<|Xx<|Xe<|Xt<|Sr<|p1 Y<|dl lW Y (AE b)<|PE 2 Y<|Ct<|Rb Y Y ?_;show((decide ((((l.length:Nat):Int):Int)<=6)):Bool)=_;exact A1r (λj h=>x j (by omega))
end Go.Sy.Eng3
