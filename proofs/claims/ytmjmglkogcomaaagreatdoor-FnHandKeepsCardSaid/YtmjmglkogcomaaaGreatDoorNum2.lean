/-
  Contracts of functions of the program, walked (printed by a program of ours).
  Conditions: those that each theorem states.
-/
import Derived.Test.YtmjmglkogcomaaaGreatDoorNum1
set_option linter.unusedVariables false
set_option maxRecDepth 20000
namespace Go.Sy.Num2
open Go Go.RowKit Go.Proofs Go.Sy
open Go.Sy.Bel1 Go.Sy.Ev1 Go.Sy.Fmt1 Go.Sy.Eng1 Go.Sy.Eng2 Go.Sy.Eng3 Go.Sy.Num1
theorem WB{w:World}{d:Value}{l:(List C1G)}(b:Gd.rd w [d] l)(y:Tb w):Cy 82 [d] w (Val w (.bool (AW l))):=by
 have a4:=rM b;refine enter 33 Tryz.func82 Y Y Y<|Sr<|Pe Y<|Cq<|Sr<|p1 Y<|dl C4y Y (AE b)<|Pe Y<|Cd Y (λz=>?_) λz=>?_
 ·refine Sr<|Pe Y<|Ct<|Xr<|Rb Y Y ?_;exact A5a (by omega)
 ·refine Sk<|Cq<|Sr<|p1 Y<|dl C4y Y (AE b)<|Pe Y<|Cb<|Cl (λm_ o w'=>∃(k:Nat),(k<=l.length)/\(∀i,i<k->GA l i=true)/\m_=l.length-k/\Fits o 33 [(0,d),(8,d),(9,nv l.length),(10,nv k)]/\St w ([]) w') ?_ ?_
  ·refine λo w' g a=>⟨_,0,?_,?_,Y,g.wk Y,a⟩
   ·omega
   ·intro i x;omega
  ·rintro m_ o w' ⟨k,hk,x,rfl,g,a⟩;refine D.use ?_ g a;clear g a o w';refine Sr<|Pe Y<|Cq<|Cd Y (λa0=>?_) λa0=>?_
   ·refine Sk<|Cq<|Cb<|Sr<|p1 Y ?_;obtain⟨f0,c⟩:=sI l k;obtain⟨a5,at5,m⟩:=AC (n:=2) rfl b c;obtain⟨u7,rfl,p⟩:=AS m;have a6:=rM p;refine q1 Y (AJ (l:=l) (j:=k) C4y Y Y Y (λw' a=>rA a b) Y<|lS c)<|q1 Y (EX C4N Y Y at5) (aL C5d Y λa1=>?_);refine p1 Y<|li Y<|AZ (vs:=[.string f0.p5,u7]) (cs':=[.string f0.p5,u7]) 0 A6i Y Y Y Y Y Y (AB Y<|AB (A2 p) BR) (by simp) Y ?_;refine Dx<|Dh [bx a1 [.string f0.p5,u7]] Y<|Cq<|A0 mixed [1,2,3,4,5,6,13,14,15,16] (by kernel_rfl)<|Tk 0 Y Y (C9 0 C4N Y Y Y)<|ty 1 Y Y<|cv A6Y Y Y Y Y (λw' a=>EQ<|rA a m) ?_;refine tZ Y<|tW 2 Y Y Y<|tW 3 Y Y Y<|JQ 18 Y Y (λq=>?_) λq=>?_
    ·refine tK 1 [4,5,6,7,8,9,10,11,12,13,14,15] Y<|tW 16 Y Y Y<|tE<|Xt<|AH [0,8,9,10,31] Y<|AG [] Y<|GF Y<|Sr<|Pe Y<|Ct ?_;refine Xq<|Xr<|Xr<|Xq<|Xr<|Rb Y Y ?_;exact jV (k:=k) (by omega) (XH c ‹_›)
    ·refine tW 4 Y Y Y<|tW 5 Y Y Y<|tW 6 Y Y Y<|EY 21 Y Y (λs=>?_) λs=>?_
     ·refine tK 8 [7,8] Y<|Tk 9 Y Y (B3 Y Y Y (r:=((k-1:Nat):Int)) (by omega) (by omega)) ?_;obtain⟨p0,e⟩:=sI l (k-1);obtain⟨a2,t,f⟩:=AC (n:=2) rfl b e;obtain⟨a7,rfl,u⟩:=AS f;have a3:=rM u;refine Tk 10 Y Y (AJ (l:=l) (j:=(k-1)) C4y Y Y Y (λw' a=>rA a b) Y<|lS e)<|Tk 11 Y Y (EX C4N Y Y t)<|Tk 12 Y Y (C9 0 C4N Y Y Y)<|ty 13 Y Y<|cv A7F Y Y Y Y (λw' a=>K2 (rA a f) (rA a m)<|Tb.ext y a.bel) ?_;refine tZ Y<|tW 14 Y Y Y<|tW 15 Y Y Y<|tW 16 Y Y Y<|tE<|Xt<|AH [0,8,9,10,31] Y<|AG [] Y<|Cd Y (λv=>?_) λv=>?_
      ·refine Sr<|Pe Y<|Ct<|Xq<|Xr<|Xr<|Xq<|Xr<|Rb Y Y ?_;exact jV (k:=k) (by omega) (XI c e (by omega) (by omega))
      ·refine Ck<|Xb<|Xt<|Cr<|ad (k+1) Y<|Pe Y λo w' g a=>⟨_,?_,k+1,?_,?_,Y,g.wk Y,a⟩
       ·omega
       ·omega
       ·refine AF x ?_;exact UK c e (by omega) ‹_› (by omega)
     ·refine tK 2 [7,8,9,10,11,12,13,14] Y<|tW 15 Y Y Y<|tW 16 Y Y Y<|tE<|Xt<|AH [0,8,9,10,31] Y<|AG [] Y<|G7 Y<|Ck<|Xb<|Xt<|Cr<|ad (k+1) Y<|Pe Y λo w' g a=>⟨_,?_,k+1,?_,?_,Y,g.wk Y,a⟩
      ·omega
      ·omega
      ·refine AF x ?_;exact UJ c ‹_› (by omega)
   ·refine Cx<|Xx<|Xx<|Xe<|Xt<|Sr<|Pe Y<|Ct<|Rb Y Y ?_;exact A7c (by omega) (λi h=>x i (by omega))
theorem OV{w:World}{g:Value}{l:(List C1G)}(b:Gd.rd w [g] l)(ho:LR P9 l):Cy 171 [g] w (Val w (.bool (AW l))):=by
 have a2:=rM b;refine enter 36 Tryz.func171 Y Y Y<|Sr<|Pe Y<|Cq<|Sr<|Pe Y<|Cb<|Cl (λm_ o w'=>∃(k:Nat),(k<=l.length)/\(∀i,i<k->GA l i=true)/\m_=l.length-k/\Fits o 36 [(0,g),(3,nv k)]/\St w ([]) w') ?_ ?_
 ·refine λo w' f a=>⟨_,0,?_,?_,Y,f.wk Y,a⟩
  ·omega
  ·intro i v;omega
 ·rintro m_ o w' ⟨k,hk,v,rfl,f,a⟩;refine D.use ?_ f a;clear f a o w';refine Cq<|Sr<|P2 Y Y<|dl C4y Y (AE b)<|Pe Y<|Cd Y (λx=>?_) λx=>?_
  ·refine Sk<|Cq<|Cb<|Cq<|A0 mixed [4,5,6,7,8,9,19,20,21,22] (by kernel_rfl)<|tK 21 [0,1] Y ?_;obtain⟨f0,c⟩:=sI l k;obtain⟨a3,u,m⟩:=AC (n:=2) rfl b c;obtain⟨u6,rfl,y⟩:=AS m;have a4:=rM y;refine Tk 2 Y Y (AJ (l:=l) (j:=k) C4y Y Y Y (λw' a=>rA a b) Y<|lS c)<|Tk 3 Y Y (EX C4N Y Y u)<|ty 4 Y Y<|cv B3s Y Y Y Y (λw' a=>ER (rA a m)<|ho _<|List.mem_of_getElem? c) ?_;refine tZ Y<|tW 5 Y Y Y<|tW 6 Y Y Y<|JQ 16 Y Y (λz=>?_) λz=>?_
   ·refine tK 1 [7,8,9,10,11,12,13,14,15,16,17,18,19,20,21] Y<|tW 22 Y Y Y<|tE<|Xt<|AH [0,3,32] Y<|GF Y<|Sr<|p1 Y<|De ?_;refine Xt<|Ct<|Xq<|Xr<|Xr<|Xq<|Xr<|Rb Y Y ?_;exact jV (k:=k) (by omega) (XH c ‹_›)
   ·refine tW 7 Y Y Y<|tW 8 Y Y Y<|tW 9 Y Y Y<|EY 19 Y Y (λp=>?_) λp=>?_
    ·refine tK 11 [10,11] Y<|Tk 12 Y Y (B3 Y Y Y (r:=((k-1:Nat):Int)) (by omega) (by omega)) ?_;obtain⟨p0,d⟩:=sI l (k-1);obtain⟨a0,q,e⟩:=AC (n:=2) rfl b d;obtain⟨a5,rfl,s⟩:=AS e;have a1:=rM s;refine Tk 13 Y Y (AJ (l:=l) (j:=(k-1)) C4y Y Y Y (λw' a=>rA a b) Y<|lS d)<|Tk 14 Y Y (EX C4N Y Y q)<|tK 6 [15,16] Y<|Tk 17 Y Y (AJ (l:=l) (j:=k) C4y Y Y Y (λw' a=>rA a b) Y<|lS c)<|Tk 18 Y Y (EX C4N Y Y u)<|ty 19 Y Y<|cv A3m Y Y Y Y (λw' a=>K3 (rA a e)<|rA a m) ?_;refine tZ Y<|tW 20 Y Y Y<|tW 21 Y Y Y<|tW 22 Y Y Y<|tE<|Xt<|AH [0,3,32] Y<|Cd Y (λt=>?_) λt=>?_
     ·refine Sr<|Pe Y<|Ct<|Xq<|Xr<|Xr<|Xq<|Xr<|Rb Y Y ?_;exact jV (k:=k) (by omega) (XI c d (by omega) (by omega))
     ·refine Ck<|Xb<|Xt<|Cr<|p1 Y<|ad (k+1) Y<|Pe Y λo w' f a=>⟨_,?_,k+1,?_,?_,Y,f.wk Y,a⟩
      ·omega
      ·omega
      ·refine AF v ?_;exact UK c d (by omega) ‹_› (by omega)
    ·refine tK 2 [10,11,12,13,14,15,16,17,18,19,20] Y<|tW 21 Y Y Y<|tW 22 Y Y Y<|tE<|Xt<|AH [0,3,32] Y<|G7 Y<|Ck<|Xb<|Xt<|Cr<|p1 Y<|ad (k+1) Y<|p1 Y ?_;refine Dx λo w' f a=>⟨_,?_,k+1,?_,?_,Y,f.wk Y,a⟩
     ·omega
     ·omega
     ·refine AF v ?_;exact UJ c ‹_› (by omega)
  ·refine Cx<|Xx<|Xx<|Xe<|Xt<|Sr<|p1 Y<|dl C4y Y (AE b)<|PE 2 Y<|Ct<|Rb Y Y ?_;show((decide ((((l.length:Nat):Int):Int)<=24)):Bool)=_;exact A7d (λi h=>v i (by omega))
theorem I1{w:World}{b:List Value}{f:C1G}(g:Gd.rd w b f)(hp:F9 f<=1048576):Cy 48 [(.agg b.toArray)] w (HH w (f:C1G)):=by
 obtain⟨h,rfl,c⟩:=AS g;have i:=rM c;unfold F9 M9 at hp;refine enter 9 Tryz.func48 Y Y Y<|Sr (bX Y λl=>?_);refine aL C5d Y λj=>?_
 refine Dx<|Dh [bx j [eS,nS],bx l [.string f.p5,h]] Y<|Cq<|A0 mixed [6] (by kernel_rfl)<|Tk 0 Y Y (Db C5V Y Y (q:=0) Y)<|Tk 1 Y Y (lb 1 BK Y Y Y Y)<|Tk 2 Y Y (Db C4Q Y Y (q:=1) Y)<|Tk 3 Y Y (lb 1 VN Y Y Y Y)<|ty 4 Y Y (YJ A6S Y Y Y Y (λw' a=>KB (rA a c) (by omega)) λd=>?_);refine tS (λ_ a=>a.pk [1,2] Y Y)<|Dp (λw' a=>CZ (k:=0) a Y) ?_;intro e;refine Tj 5 Y Y (λ_ a=>a.pk [1,2] Y Y) (FJ (vs:=[(0,.string f.p5),(1,d)]) (xs:=[(0,[.string f.p5]),(1,[d])]) (cs:=[.string f.p5,d]) C8D Y ⟨Y,Y,⟨Y,AO e,trivial⟩⟩ Y Y)<|ty 6 Y Y<|AZ (vs:=[.string f.p5,d]) (cs':=[.string f.p5,d]) 1 A6i Y Y Y Y Y Y (AB Y<|AB e BR) (by simp) Y ?_;refine tZ Y<|tE<|Xt<|Ct<|S4 (r:=(f:C1G)) (eW 1 C4N Y Y Y λw' a=>A7 (k:=0) a Y ?_);show(f:C1G)=f;rfl
theorem K4{w:World}{b:List Value}{f:C1G}(g:Gd.rd w b f)(hp:F9 f<=1048576):Cy 49 [(.agg b.toArray)] w (HH w (f:C1G)):=by
 obtain⟨h,rfl,c⟩:=AS g;have i:=rM c;unfold F9 M9 at hp;refine enter 9 Tryz.func49 Y Y Y<|Sr (bX Y λl=>?_);refine aL C5d Y λj=>?_
 refine Dx<|Dh [bx j [eS,nS],bx l [.string f.p5,h]] Y<|Cq<|A0 mixed [6] (by kernel_rfl)<|Tk 0 Y Y (Db C5V Y Y (q:=0) Y)<|Tk 1 Y Y (lb 1 BK Y Y Y Y)<|Tk 2 Y Y (Db C4Q Y Y (q:=1) Y)<|Tk 3 Y Y (lb 1 VN Y Y Y Y)<|ty 4 Y Y (YJ B2w Y Y Y Y (λw' a=>ZE (rA a c) (by omega)) λd=>?_);refine tS (λ_ a=>a.pk [1,2] Y Y)<|Dp (λw' a=>CZ (k:=0) a Y) ?_;intro e;refine Tj 5 Y Y (λ_ a=>a.pk [1,2] Y Y) (FJ (vs:=[(0,.string f.p5),(1,d)]) (xs:=[(0,[.string f.p5]),(1,[d])]) (cs:=[.string f.p5,d]) C8D Y ⟨Y,Y,⟨Y,AO e,trivial⟩⟩ Y Y)<|ty 6 Y Y<|AZ (vs:=[.string f.p5,d]) (cs':=[.string f.p5,d]) 1 A6i Y Y Y Y Y Y (AB Y<|AB e BR) (by simp) Y ?_;refine tZ Y<|tE<|Xt<|Ct<|S4 (r:=(f:C1G)) (eW 1 C4N Y Y Y λw' a=>A7 (k:=0) a Y ?_);show(f:C1G)=f;rfl
theorem QK{w:World}{f:Value}{l:(List C1N)}(d:Gd.rd w [f] l)(hn:DD CM l<=1048576):Cy 15 [f] w (HH w (l.map C1N.j:List C1G)):=by
 have a0:=rM d;unfold DD at hn;refine enter 20 Tryz.func15 Y Y Y<|Sr<|Pe Y<|Sr<|Pe Y<|Cq<|Sr<|p1 Y<|dl lZ Y (AE d)<|Pe Y<|Cb<|Cl (λm_ o w'=>∃(k:Nat),∃(v:Value),(k<=l.length)/\m_=l.length-k/\Fits o 20 [(3,v),(6,f),(7,nv l.length),(8,nv k)]/\St w ([ov [v] ((l.take k).map C1N.j:(List C1G))]) w') ?_ ?_
 ·refine CG (α:=C1G)<|A3 0 Y (show([]:(List C1G))=(l.take 0).map C1N.j from by simp) λo w' g a=>⟨_,0,nS,?_,Y,g.wk Y,a⟩
  ·omega
 ·rintro m_ o w' ⟨k,v,hk,rfl,g,a⟩;refine D.use ?_ g a;clear g a o w';have a4:((l.take k).map C1N.j).length<=k:=by rw[List.length_map,List.length_take];omega
  refine Sr<|Pe Y<|Dh [_] Y<|Cq<|Cd Y (λr=>?_) λr=>?_
  ·refine Sk<|Cq<|Cb<|Sr ?_;obtain⟨b,e⟩:=sI l k;have a6:=C8 (c:=CM) (List.mem_of_getElem? e);have x:CM b=F9 b.j:=rfl;obtain⟨a1,u,h⟩:=AC (n:=3) rfl d e;obtain⟨p,rfl,i⟩:=B9 h;have a2:=rM i;have s:=BE h;refine q1 Y (AJ (l:=l) (j:=k) lZ Y Y Y (λw' a=>rA a d) Y<|lS e)<|q1 Y (EX I7 Y Y u) (aL lT Y λt=>?_);refine li Y<|AZ (vs:=[.string b.j.p5,p,iv b.q1]) (cs':=[.string b.j.p5,p,iv b.q1]) 0 pE Y Y Y Y Y Y (AB Y<|AB (A2 i)<|AB Y BR) (by simp) Y ?_;refine Dx<|Dh [bx t [.string b.j.p5,p,iv b.q1],_] Y<|Cr<|p1 Y<|q1 Y (Db JK Y Y (q:=0) Y)<|q1 Y (H2 (es:=[.string b.j.p5,p]) 0 C4N Y Y Y Y) (qs Y A6w Y (λw' a=>I1 (rA a s) (by omega)) λy=>?_);refine Dp (λw' a=>EZ<|rO (k:=0) a Y) ?_;rintro⟨a3,rfl,z⟩;refine li Y (FF C4y C5d Y (by decide) (by decide) Y Y Y Y Y Y λa5=>?_);refine AG [3,1,0,2] Y<|li Y (GZ C4y C5d Y (by decide) Y Y Y Y Y Y (by omega) (by omega) λm=>?_);refine p1 Y<|De<|Xb<|Xt<|Dh [ov [m] (((l.take k).map C1N.j)++ [b.j]:(List C1G)),_] Y<|Cr<|ad (k+1) Y<|Pe Y<|A3 0 Y (show(((l.take k).map C1N.j)++ [b.j]:(List C1G))=(l.take (k+1)).map C1N.j from by rw[A1 e,List.map_append];rfl) λo w' g a=>⟨_,?_,k+1,m,?_,Y,g.wk Y,a.pk [0] Y Y⟩
   ·omega
   ·omega
  ·refine Cx<|Xx<|Xx<|Xe<|Xt<|Sr<|PE 2 Y<|Ct (FV Y Y λw' a=>A7 (k:=0) a Y ?_);show(l.take k).map C1N.j=l.map C1N.j;rw[List.take_of_length_le (by omega)]
theorem QL{w:World}{e:Value}{l:(List C1N)}(b:Gd.rd w [e] l)(y:DD CM l<=1048576):Cy 16 [e] w (HH w (l.map C1N.j:List C1G)):=by
 have z:=rM b;unfold DD at y;refine enter 22 Tryz.func16 Y Y Y<|Sr<|Pe Y<|Sr<|li Y (FL (α:=C1G) C4y Y Y Y λv2=>?_);refine Pe Y<|Dh [ov [v2] ([]:(List C1G))] Y<|Cq<|Sr<|Pe Y<|Cb<|Cl (λx o w'=>∃(k:Nat),∃(v:Value),(k<=l.length)/\x=l.length-k/\Fits o 22 [(0,e),(3,v),(4,nv k)]/\St w ([ov [v] ((l.take k).map C1N.j:(List C1G))]) w') ?_ ?_
 ·refine A3 0 Y (show([]:(List C1G))=(l.take 0).map C1N.j from by simp) λo w' g a=>⟨_,0,v2,?_,Y,g.wk Y,a⟩
  ·omega
 ·rintro x o w' ⟨k,v,hk,rfl,g,a⟩;refine D.use ?_ g a;clear g a o w';have a3:((l.take k).map C1N.j).length<=k:=by rw[List.length_map,List.length_take];omega
  refine Cq<|Sr<|P2 Y Y<|dl lZ Y (AE b)<|Pe Y<|Dh [_] Y<|Cd Y (λq=>?_) λq=>?_
  ·refine Sk<|Cq<|Cb<|Cr<|P3 Y Y Y ?_;obtain⟨p,d⟩:=sI l k;have a5:=C8 (c:=CM) (List.mem_of_getElem? d);have s:CM p=F9 p.j:=rfl;obtain⟨a0,at5,h⟩:=AC (n:=3) rfl b d;obtain⟨u7,rfl,r⟩:=B9 h;have a1:=rM r;have i:=BE h;refine q1 Y (AJ (l:=l) (j:=k) lZ Y Y Y (λw' a=>rA a b) Y<|lS d)<|q1 Y (B2 JK Y Y)<|q1 Y (EX C4N Y Y<|Q1 (f:=0) (n:=2) at5 Y) (qs Y B3a Y (λw' a=>K4 (rA a i) (by omega)) λt=>?_);refine Dp (λw' a=>EZ<|rO (k:=0) a Y) ?_;rintro⟨a2,rfl,u⟩;refine li Y (FF C4y C5d Y (by decide) (by decide) Y Y Y Y Y Y λa4=>?_);refine AG [2,1,0] Y<|li Y (GZ C4y C5d Y (by decide) Y Y Y Y Y Y (by omega) (by omega) λm=>?_);refine p1 Y<|De<|Xb<|Xt<|Dh [ov [m] (((l.take k).map C1N.j)++ [p.j]:(List C1G))] Y<|Cr<|p1 Y<|ad (k+1) Y<|Pe Y<|A3 0 Y (show(((l.take k).map C1N.j)++ [p.j]:(List C1G))=(l.take (k+1)).map C1N.j from by rw[A1 d,List.map_append];rfl) λo w' g a=>⟨_,?_,k+1,m,?_,Y,g.wk Y,a⟩
   ·omega
   ·omega
  ·refine Cx<|Xx<|Xx<|Xe<|Xt<|Sr<|PE 2 Y<|Ct (FV Y Y λw' a=>A7 (k:=0) a Y ?_);show(l.take k).map C1N.j=l.map C1N.j;rw[List.take_of_length_le (by omega)]
theorem OW{w:World}{d:Value}{l:(List C1N)}(c:Gd.rd w [d] l)(hn:DD CM l<=1048576)(r:Tb w):Cy 42 [d] w (Val w (.bool (C5 l))):=by
 have a0:=rM c;have s:=hn;unfold DD at hn;refine enter 34 Tryz.func42 Y Y Y<|Sr<|Pe Y<|Sr<|li Y (xL Y Y Y λq=>?_);refine Pe Y<|Dh [ov [.map<|some q] ((⟨[]⟩:ISet):ISet)] Y<|Cq<|Sr<|p1 Y<|dl lZ Y (AE c)<|Pe Y<|Cb<|Cl (λm_ p w'=>∃(k:Nat),(k<=l.length)/\(∀i,i<k->HE l i=true)/\m_=l.length-k/\Fits p 34 [(0,d),(3,.map<|some q),(7,d),(8,nv l.length),(9,nv k)]/\St w ([ov [.map<|some q] (LU l k:ISet)]) w') ?_ ?_
 ·refine A3 0 Y (show((⟨[]⟩:ISet):ISet)=LU l 0 from by rfl) λp w' f b=>⟨_,0,?_,?_,Y,f.wk Y,b⟩
  ·omega
  ·intro i y;omega
 ·rintro m_ p w' ⟨k,hk,y,rfl,f,b⟩;refine D.use ?_ f b;clear f b p w';refine Sr<|Pe Y<|Dh [_] Y<|Cq<|Cd Y (λt=>?_) λt=>?_
  ·refine Sk<|Cq<|Cb<|Sr ?_;obtain⟨e,a⟩:=sI l k;obtain⟨a1,at5,u⟩:=AC (n:=3) rfl c a;obtain⟨v,rfl,g⟩:=B9 u;have a2:=rM g;refine q1 Y (AJ (l:=l) (j:=k) lZ Y Y Y (λw' b=>rA b c) Y<|lS a)<|q1 Y (EX I7 Y Y at5) (aL lT Y λz=>?_);refine li Y<|AZ (vs:=[.string e.j.p5,v,iv e.q1]) (cs':=[.string e.j.p5,v,iv e.q1]) 0 pE Y Y Y Y Y Y (AB Y<|AB (A2 g)<|AB Y BR) (by simp) Y ?_;refine Dx<|Dh [bx z [.string e.j.p5,v,iv e.q1],_] Y<|Cq<|Sr<|fl 0 L4 CJ Y<|P2 Y Y<|EY 16 Y Y (λm=>?_) λm=>?_
   ·refine PE 10 Y<|AH [0,3,5,7,8,9,26] Y<|GF Y<|Sr<|Pe Y<|Ct<|Xr<|Xq<|Xr<|Xr<|Xq ?_;refine Xr<|Rb Y Y ?_;exact cP (k:=k) (lS a) (RN a (by unfold GO;simp;omega))
   ·refine fl 0 L4 CJ Y<|P3 Y Y Y<|EY 21 Y Y (λo=>?_) λo=>?_
    ·refine PE 5 Y<|AH [0,3,5,7,8,9,26] Y<|GF Y<|Sr<|Pe Y<|Ct<|Xr<|Xq<|Xr<|Xr<|Xq<|Xr<|Rb Y Y ?_;exact cP (k:=k) (lS a) (RN a (by unfold GO;simp;omega))
    ·refine p1 Y<|fl 0 L4 CJ Y<|q1 Y (rZ 1 C7d LO y_4 Y Y Y Y)<|Pe Y<|AH [0,3,5,7,8,9,26] Y<|Ci _ Y (λx=>?_) λx=>?_
     ·refine Sr<|Pe Y<|Ct<|Xr<|Xq<|Xr<|Xr<|Xq<|Xr<|Rb Y Y ?_;exact cP (k:=k) (lS a) (XJ a ‹_›)
     ·refine Sk<|Cr<|p1 Y<|fl 0 L4 CJ Y<|li Y<|xM 1 C7d LO Y Y Y Y Y Y ‹_› ?_;refine De<|Xb<|Xt<|Dh [_,ov [.map<|some q] (ISet.add (LU l k) e.q1:ISet)] Y<|Cr<|ad (k+1) Y<|Pe Y<|A3 1 Y (show(ISet.add (LU l k) e.q1:ISet)=LU l (k+1) from by exact gG a) λp w' f b=>⟨_,?_,k+1,?_,?_,Y,f.wk Y,b.pk [1] Y Y⟩
      ·omega
      ·omega
      ·refine AF y ?_;exact cM a (by unfold GO;simp;omega) ‹_›
  ·refine Cx<|Xx<|Xx<|Xe<|Xt<|Sr<|p1 Y (ql B4V Y (λw' b=>QK (rA b c) s) λa3=>?_);refine qv A7J Y (λw' b=>WB (rO (k:=0) b Y)<|Tb.ext r b.bel)<|Pe Y<|Ct<|Rb Y Y ?_;show((AW (l.map C1N.j)):Bool)=_;exact A0q (λi h=>y i (by omega))
theorem OX{w:World}{f:Value}{l:(List C1N)}(b:Gd.rd w [f] l)(hn:DD CM l<=1048576)(ho:LR MA l):Cy 136 [f] w (Val w (.bool (C5 l))):=by
 have a5:=rM b;have z:=hn;unfold DD at hn;refine enter 37 Tryz.func136 Y Y Y<|Sr<|Pe Y<|Cq<|Sr<|Pe Y<|Cb<|Cl (λu e w'=>∃(k:Nat),(k<=l.length)/\(∀i,i<k->HE l i=true)/\u=l.length-k/\Fits e 37 [(0,f),(3,nv k)]/\St w ([]) w') ?_ ?_
 ·refine λe w' d a=>⟨_,0,?_,?_,Y,d.wk Y,a⟩
  ·omega
  ·intro i x;omega
 ·rintro u e w' ⟨k,hk,x,rfl,d,a⟩;refine D.use ?_ d a;clear d a e w';refine Cq<|Sr<|P2 Y Y<|dl lZ Y (AE b)<|Pe Y<|Cd Y (λa0=>?_) λa0=>?_
  ·refine Sk<|Cq<|Cb<|Cq<|Sr<|P2 Y Y ?_;obtain⟨s0,c⟩:=sI l k;obtain⟨a6,v,a1⟩:=AC (n:=3) rfl b c;obtain⟨u6,rfl,a2⟩:=B9 a1;have a7:=rM a2;refine q1 Y (AJ (l:=l) (j:=k) lZ Y Y Y (λw' a=>rA a b) Y<|lS c)<|q1 Y (B2 L4 Y Y)<|q1 Y (lr CJ Y Y v Y)<|qv B3Y Y (λw' a=>E7)<|Pe Y<|CN Y (λm=>?_) λm=>?_
   ·refine Sr<|Pe Y<|Ct<|Xr<|Xq<|Xr<|Xr<|Xq<|Xr<|Rb Y Y ?_;exact cP (k:=k) (lS c) (RN c ‹_›)
   ·refine Sk<|Sr<|Pe Y<|Cb<|Cl (λu e w'=>∃(j:Nat),(j<=k)/\(∀i,i<j->∀q,l[i]?=some q->q.q1≠s0.q1)/\u=k-j/\Fits e 37 [(0,f),(3,nv k),(4,nv j)]/\St w ([]) w') ?_ ?_
    ·refine λe w' d a=>⟨_,0,?_,?_,Y,d.wk Y,a⟩
     ·omega
     ·intro i x;omega
    ·rintro u e w' ⟨j,a9,hj,rfl,d,a⟩;refine D.use ?_ d a;clear d a e w';refine Cq<|Sr<|PE 3 Y<|Cd Y (λo=>?_) λo=>?_
     ·refine Sk<|Cq<|Cb<|Cq<|A0 mixed [] (by kernel_rfl)<|tK 9 [0,1] Y ?_;obtain⟨q0,g⟩:=sI l j;obtain⟨a3,p,r⟩:=AC (n:=3) rfl b g;obtain⟨a8,rfl,s⟩:=B9 r;have a4:=rM s;refine Tk 2 Y Y (AJ (l:=l) (j:=j) lZ Y Y Y (λw' a=>rA a b) Y<|lS g)<|Tk 3 Y Y (B2 L4 Y Y)<|Tk 4 Y Y (lr CJ Y Y p Y)<|tK 4 [5,6] Y<|Tk 7 Y Y (AJ (l:=l) (j:=k) lZ Y Y Y (λw' a=>rA a b) Y<|lS c)<|Tk 8 Y Y (B2 L4 Y Y)<|Tk 9 Y Y (lr CJ Y Y v Y)<|tR 10 Y Y<|tE<|Xt<|Ce Y (λt=>?_) λt=>?_
      ·refine Sr<|Pe Y<|Ct<|Xq<|Xr<|Xr<|Xq<|Xq<|Xr<|Xr<|Xq<|Xr<|Rb Y Y ?_;exact cP (k:=k) (lS c) (XK c g (by omega) ‹_›)
      ·refine Ck<|Xb<|Xt<|Cr<|p1 Y<|ad (j+1) Y<|Pe Y λe w' d a=>⟨_,?_,j+1,?_,?_,Y,d.wk Y,a⟩
       ·omega
       ·omega
       ·refine AF hj ?_;intro y hy;obtain rfl:y=q0:=Option.some.inj (hy.symm.trans g);omega
     ·refine Cx<|Xx<|Xx<|Xe<|Xb<|Xt<|Cr<|p1 Y<|ad (k+1) Y<|Pe Y λe w' d a=>⟨_,?_,k+1,?_,?_,Y,d.wk Y,a⟩
      ·omega
      ·omega
      ·refine AF x ?_;exact cO c ‹_› (λi h=>hj i (by omega))
  ·refine Cx<|Xx<|Xx<|Xe<|Xt<|Sr<|p1 Y (ql B4U Y (λw' a=>QL (rA a b) z) λv20=>?_);refine qv A4j Y (λw' a=>OV (rO (k:=0) a Y)<|jW ho)<|Pe Y<|Ct<|Rb Y Y ?_;show((AW (l.map C1N.j)):Bool)=_;exact A0q (λi h=>x i (by omega))
theorem IZ{w:World}{m:Value}{a:(List Int)}{o:Value}{b:(List Int)}(c:Gd.rd w [m] a)(f:Gd.rd w [o] b):Cy 83 [m,o] w (Val w (.bool (decide (a=b)))):=by
 have a3:=rM c;have a4:=rM f;refine enter 26 Tryz.func83 Y Y Y<|Sr<|Pe Y<|Cq<|Sr<|p1 Y<|dl C1s Y (AE c)<|p1 Y<|dl C1s Y (AE f)<|Pe Y<|Cn Y (λx=>?_) λx=>?_
 ·refine Sr<|Pe Y<|Ct<|Xr<|Rb Y Y ?_;simp;intro e;subst e;simp_all
 ·refine Sk<|Cq<|Sr<|p1 Y<|dl C1s Y (AE c)<|Pe Y<|Cb<|Cl (λm_ v w'=>∃(k:Nat),(k<=a.length)/\(∀i,i<k->a[i]?=b[i]?)/\m_=a.length-k/\Fits v 26 [(0,m),(1,o),(12,nv a.length),(13,nv k)]/\St w ([]) w') ?_ ?_
  ·refine λv w' p d=>⟨_,0,?_,?_,Y,p.wk Y,d⟩
   ·omega
   ·intro i hi;omega
  ·rintro m_ v w' ⟨k,hk,hi,rfl,p,d⟩;refine D.use ?_ p d;clear p d v w';refine Sr<|Pe Y<|Cq<|Cd Y (λy=>?_) λy=>?_
   ·refine Sk<|Cq<|Cb<|Sr<|PE 2 Y<|Cq<|A0 mixed [] (by kernel_rfl)<|tK 7 [0,1] Y ?_;obtain⟨x5,q⟩:=sI a k;obtain⟨z,a2,a0⟩:=AC (n:=1) rfl c q;obtain rfl:z=[.int .i64 x5]:=a0;refine Tk 2 Y Y (AJ (l:=a) (j:=k) C1s Y Y Y (λw' d=>rA d c) Y<|lS q)<|Tk 3 Y Y (HI CJ Y Y a2 Y)<|tK 3 [4,5] Y ?_;obtain⟨a1,g⟩:=sI b k;obtain⟨r,s,t⟩:=AC (n:=1) rfl f g;obtain rfl:r=[.int .i64 a1]:=t;refine Tk 6 Y Y (AJ (l:=b) (j:=k) C1s Y Y Y (λw' d=>rA d f) Y<|lS g)<|Tk 7 Y Y (HI CJ Y Y s Y)<|tR 8 Y Y<|tE<|Xt<|Cn Y (λu=>?_) λu=>?_
    ·refine Sr<|Pe Y<|Ct<|Xq<|Xr<|Xr<|Xq<|Xr<|Rb Y Y ?_;simp;intro e;subst e;simp_all
    ·refine Ck<|Xb<|Xt<|Cr<|ad (k+1) Y<|Pe Y λv w' p d=>⟨_,?_,k+1,?_,?_,Y,p.wk Y,d⟩
     ·omega
     ·omega
     ·exact DF hi ‹_› ‹_› (by simp_all)
   ·refine Cx<|Xx<|Xx<|Xe<|Xt<|Sr<|Pe Y<|Ct<|Rb Y Y ?_;simp;exact C7 (by omega) (λi h=>hi i (by omega))
theorem MP{w:World}{m:Value}{a:(List Int)}{o:Value}{b:(List Int)}(c:Gd.rd w [m] a)(f:Gd.rd w [o] b):Cy 39 [m,o] w (Val w (.bool (decide (a=b)))):=by
 have a3:=rM c;have a4:=rM f;refine enter 26 Tryz.func39 Y Y Y<|Sr<|Pe Y<|Cq<|Sr<|p1 Y<|dl C1s Y (AE c)<|p1 Y<|dl C1s Y (AE f)<|Pe Y<|Cn Y (λx=>?_) λx=>?_
 ·refine Sr<|Pe Y<|Ct<|Xr<|Rb Y Y ?_;simp;intro e;subst e;simp_all
 ·refine Sk<|Cq<|Sr<|Pe Y<|Cb<|Cl (λm_ v w'=>∃(k:Nat),(k<=a.length)/\(∀i,i<k->a[i]?=b[i]?)/\m_=a.length-k/\Fits v 26 [(0,m),(1,o),(5,nv k)]/\St w ([]) w') ?_ ?_
  ·refine λv w' p d=>⟨_,0,?_,?_,Y,p.wk Y,d⟩
   ·omega
   ·intro i hi;omega
  ·rintro m_ v w' ⟨k,hk,hi,rfl,p,d⟩;refine D.use ?_ p d;clear p d v w';refine Cq<|Sr<|P2 Y Y<|dl C1s Y (AE c)<|Pe Y<|Cd Y (λy=>?_) λy=>?_
   ·refine Sk<|Cq<|Cb<|Cq<|A0 mixed [] (by kernel_rfl)<|tK 7 [0,1] Y ?_;obtain⟨x5,q⟩:=sI a k;obtain⟨z,a2,a0⟩:=AC (n:=1) rfl c q;obtain rfl:z=[.int .i64 x5]:=a0;refine Tk 2 Y Y (AJ (l:=a) (j:=k) C1s Y Y Y (λw' d=>rA d c) Y<|lS q)<|Tk 3 Y Y (HI CJ Y Y a2 Y)<|tK 3 [4,5] Y ?_;obtain⟨a1,g⟩:=sI b k;obtain⟨r,s,t⟩:=AC (n:=1) rfl f g;obtain rfl:r=[.int .i64 a1]:=t;refine Tk 6 Y Y (AJ (l:=b) (j:=k) C1s Y Y Y (λw' d=>rA d f) Y<|lS g)<|Tk 7 Y Y (HI CJ Y Y s Y)<|tR 8 Y Y<|tE<|Xt<|Cn Y (λu=>?_) λu=>?_
    ·refine Sr<|Pe Y<|Ct<|Xq<|Xr<|Xr<|Xq<|Xr<|Rb Y Y ?_;simp;intro e;subst e;simp_all
    ·refine Ck<|Xb<|Xt<|Cr<|p1 Y<|ad (k+1) Y<|Pe Y λv w' p d=>⟨_,?_,k+1,?_,?_,Y,p.wk Y,d⟩
     ·omega
     ·omega
     ·exact DF hi ‹_› ‹_› (by simp_all)
   ·refine Cx<|Xx<|Xx<|Xe<|Xt<|Sr<|Pe Y<|Ct<|Rb Y Y ?_;simp;exact C7 (by omega) (λi h=>hi i (by omega))
theorem MQ{w:World}{c:List Value}{a:C1O}{d:List Value}{b:C1O}(g:Gd.rd w c a)(h:Gd.rd w d b):Cy 44 [(.agg c.toArray),(.agg d.toArray)] w (Val w (.bool (decide (a=b)))):=by
 obtain⟨k,rfl,e⟩:=BQ g;have l:=rM e;obtain⟨m,rfl,f⟩:=BQ h;have n:=rM f;refine enter 17 Tryz.func44 Y Y Y<|Sr (bX Y λo=>?_);refine bX Y λp=>?_
 refine Pe Y<|Dh [bx p [.string b.p7,m],bx o [.string a.p7,k]] Y<|Sr<|fl 1 C5u BK Y<|fl 0 C5u BK Y<|q1 Y (DO Y Y Y)<|p1 Y<|EY 10 Y Y (λi=>?_) λi=>?_
 ·refine fl 1 C5l C2J Y<|fl 0 C5l C2J Y<|qv A7K Y (λw' j=>IZ (rA j e)<|rA j f)<|PE 2 Y<|Ct<|Rb Y Y ?_;show((decide (a.q2=b.q2)):Bool)=_
  cases a;cases b;simp_all
 ·refine PE 7 Y<|Ct<|Rb Y Y ?_
  cases a;cases b;simp_all
end Go.Sy.Num2
