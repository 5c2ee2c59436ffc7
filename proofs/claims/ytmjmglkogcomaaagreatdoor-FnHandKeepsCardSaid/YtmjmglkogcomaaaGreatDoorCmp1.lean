/-
  Contracts of functions of the program, walked (printed by a program of ours).
  Conditions: those that each theorem states.
-/
import Derived.Test.YtmjmglkogcomaaaGreatDoorNum3
import Derived.Test.YtmjmglkogcomaaaGreatDoorCho2
set_option linter.unusedVariables false
set_option maxRecDepth 20000
namespace Go.Sy.Cmp1
open Go Go.RowKit Go.Proofs Go.Sy
open Go.Sy.Bel1 Go.Sy.Ev1 Go.Sy.Ev3 Go.Sy.Fmt1 Go.Sy.Eng1 Go.Sy.Eng2 Go.Sy.Eng3 Go.Sy.Eng4 Go.Sy.Num1 Go.Sy.Num2 Go.Sy.Fal2 Go.Sy.Cho2
theorem QW{w:World}{h:Value}{l:(List Int)}(c:Gd.rd w [h] l)(hl:l.length<=1048576):Cy 245 [h] w (HH w (AP l:(List Int))):=by
 have a5:=rM c;refine enter 54 Tryz.func245 Y Y Y<|Sr<|Pe Y<|Sr<|li Y (FL (α:=Int) C1s Y Y Y λv2=>?_);refine Pe Y<|Dh [ov [v2] ([]:(List Int))] Y<|Cq<|Sr<|Pe Y<|Cb<|Cl (λv g w'=>∃(i:Nat),∃(va:Value),(i<=l.length)/\v=l.length-i/\Fits g 54 [(0,h),(3,va),(4,nv i)]/\St w ([ov [va] (AP (l.take i):(List Int))]) w') ?_ ?_
 ·refine A3 0 Y (show([]:(List Int))=AP (l.take 0) from by exact mX l) λg w' f a=>⟨_,0,v2,?_,Y,f.wk Y,a⟩
  ·first|assumption|omega|simp
 ·rintro v g w' ⟨i,va,aa,rfl,f,a⟩;refine D.use ?_ f a;clear f a g w';have a4:(AP (l.take i)).length=i:=by rw[QP,List.length_take];omega
  refine Cq<|Sr<|P2 Y Y<|dl C1s Y (AE c)<|Pe Y<|Dh [_] Y<|Cd Y (λa0=>?_) λa0=>?_
  ·refine Sk<|Cq<|Cb<|Sr<|p1 Y<|q1 Y (B7 0 C1s Y Y Y)<|Pe Y<|Sr<|P3 Y Y Y ?_;obtain⟨b,d⟩:=sI l i;obtain⟨a1,at5,a2⟩:=AC (n:=1) rfl c d;obtain rfl:a1=[.int .i64 b]:=a2;refine q1 Y (AJ (l:=l) (j:=i) C1s Y Y Y (λw' a=>rA a c) Y<|lS d)<|q1 Y (HI CJ Y Y at5 Y)<|li Y (FF C1s vH Y (by decide) (by decide) Y Y Y Y Y Y λg7=>?_);refine O7 b<|AG [2,0,1] Y<|li Y (GZ C1s vH Y (by decide) Y Y Y Y Y Y (by omega) (by omega) λv8=>?_);refine Pe Y<|Dh [ov [v8] ((AP<|l.take i)++ [b]:(List Int))] Y<|Cq<|Cb<|Cl (λv g w'=>∃(k:Nat),∃(m:Value),(k<=i)/\(∀p,k<=p->∀y,(AP<|l.take i)[p]?=some y->y<b)/\v=k+1/\Fits g 54 [(0,h),(3,m),(4,nv i),(5,nv k)]/\St w ([ov [m] (IF (AP<|l.take i) b k:(List Int))]) w') ?_ ?_
   ·refine A3 0 Y (show((AP (l.take i))++ [b]:(List Int))=IF (AP (l.take i)) b ((AP (l.take i)).length) from by rw[XU,a4]) λg w' f a=>⟨_,(AP<|l.take i).length,v8,?_,?_,Y,f.wk Y,a⟩
    ·first|assumption|omega|simp
    ·intro p hp y hy;have:=lS hy;omega
   ·rintro v g w' ⟨k,m,x,t,rfl,f,a⟩;refine D.use ?_ f a;clear f a g w';have a9:(IF (AP (l.take i)) b k).length=i+1:=by rw[kJ (by omega)];omega
    refine Cq<|Cq<|A0 mixed [] (by kernel_rfl)<|tK 11 [0,1,2] Y<|EY 24 Y Y (λa3=>?_) λa3=>?_
    ·refine tK 9 [3,4] Y<|Tk 5 Y Y (B3 Y Y Y (r:=((k-1:Nat):Int)) (by omega) (by omega)) ?_;obtain⟨y0,e⟩:=sI (IF (AP (l.take i)) b k) (k-1);refine Tk 6 Y Y (AJ (l:=IF (AP<|l.take i) b k) (j:=(k-1)) C1s Y Y Y (λw' a=>rO (k:=0) a Y) Y<|lS e)<|Tk 7 Y Y (lo (α:=Int) 0 CJ Y Y Y e)<|tK 4 [8,9] Y<|Tk 10 Y Y (AJ (l:=l) (j:=i) C1s Y Y Y (λw' a=>rA a c) Y<|lS d)<|Tk 11 Y Y (HI CJ Y Y at5 Y)<|tK 0 [12,13] Y<|tE<|Xt<|Dh [_] Y<|Cd Y (λu=>?_) λu=>?_
     ·refine Sk<|Cb<|Sr<|P3 Y Y Y<|p1 Y<|q1 Y (B3 Y Y Y (r:=((k-1:Nat):Int)) (by omega) (by omega))<|q1 Y (AJ (l:=IF (AP<|l.take i) b k) (j:=(k-1)) C1s Y Y Y (λw' a=>rO (k:=0) a Y) Y<|lS e)<|q1 Y (lo (α:=Int) 0 CJ Y Y Y e) ?_;obtain⟨a6,o⟩:=sI (IF (AP (l.take i)) b k) k;refine q1 Y (AJ (l:=IF (AP<|l.take i) b k) (j:=k) C1s Y Y Y (λw' a=>rO (k:=0) a Y) Y<|lS o)<|li Y<|so (α:=Int) (z:=y0) 0 PC Y Y Y Y Y (lS o) ?_;refine Dx<|AH [0,3,4,5] Y<|Dh [ov [m] ((IF (AP<|l.take i) b k).set k y0:(List Int))] Y<|Cr<|p1 Y<|q1 Y (B3 Y Y Y (r:=((k-1:Nat):Int)) (by omega) (by omega))<|p1 Y<|De<|Xb<|Xt<|A3 0 Y (show((IF (AP (l.take i)) b k).set k y0:(List Int))=IF (AP (l.take i)) b (k-1) from by exact dK (by omega) (by omega) e) λg w' f a=>⟨_,?_,k-1,m,?_,?_,Y,f.wk Y,a⟩
      ·omega
      ·first|assumption|omega|simp
      ·exact tA (p:=(·<b)) ⟨by omega,by omega⟩ t e (by omega)
     ·refine Cx<|Xx<|Xx<|Xe<|Xt<|Cr<|P3 Y Y Y<|p1 Y<|q1 Y (AJ (l:=l) (j:=i) C1s Y Y Y (λw' a=>rA a c) Y<|lS d)<|q1 Y (HI CJ Y Y at5 Y) ?_;obtain⟨a7,q⟩:=sI (IF (AP (l.take i)) b k) k;refine q1 Y (AJ (l:=IF (AP<|l.take i) b k) (j:=k) C1s Y Y Y (λw' a=>rO (k:=0) a Y) Y<|lS q)<|li Y<|so (α:=Int) (z:=b) 0 PC Y Y Y Y Y (lS q) ?_;refine De<|Xb<|Xt<|AH [0,3,4] Y<|Dh [ov [m] ((IF (AP<|l.take i) b k).set k b:(List Int))] Y<|Cr<|p1 Y<|ad (i+1) Y<|Pe Y<|A3 0 Y (show((IF (AP (l.take i)) b k).set k b:(List Int))=AP (l.take (i+1)) from by exact tH d x t (by exact .inr ⟨_,e,by omega⟩)) λg w' f a=>⟨_,?_,i+1,m,?_,Y,f.wk Y,a⟩
      ·omega
      ·first|assumption|omega|simp
    ·refine tK 0 [3,4,5,6,7,8,9,10,11,12,13] Y<|tE<|Xt<|Dh [_] Y<|G7 Y<|Cx<|Xx<|Xx<|Xe<|Xt<|Cr<|P3 Y Y Y<|p1 Y<|q1 Y (AJ (l:=l) (j:=i) C1s Y Y Y (λw' a=>rA a c) Y<|lS d)<|q1 Y (HI CJ Y Y at5 Y) ?_;obtain⟨a8,s⟩:=sI (IF (AP (l.take i)) b k) k;refine q1 Y (AJ (l:=IF (AP<|l.take i) b k) (j:=k) C1s Y Y Y (λw' a=>rO (k:=0) a Y) Y<|lS s)<|li Y<|so (α:=Int) (z:=b) 0 PC Y Y Y Y Y (lS s) ?_;refine De<|Xb<|Xt<|AH [0,3,4] Y<|Dh [ov [m] ((IF (AP<|l.take i) b k).set k b:(List Int))] Y<|Cr<|p1 Y<|ad (i+1) Y<|Pe Y<|A3 0 Y (show((IF (AP (l.take i)) b k).set k b:(List Int))=AP (l.take (i+1)) from by exact tH d x t (by left;omega)) λg w' f a=>⟨_,?_,i+1,m,?_,Y,f.wk Y,a⟩
     ·omega
     ·first|assumption|omega|simp
  ·refine Cx<|Xx<|Xx<|Xe<|Xt<|Sr<|PE 2 Y<|Ct (FV Y Y λw' a=>A7 (k:=0) a Y ?_);show AP (l.take i)=AP l;exact mY (by omega)
theorem KO{w:World}{a:Int}{b:Int}:Cy 243 [(iv a),(iv b)] w (Val w (iv (DN a b))):=by
 refine enter 13 Tryz.func243 Y Y Y<|Sr<|Pe Y<|Cq<|Cb<|Sr<|PE 4 Y<|Cd Y (λc=>?_) λc=>?_
 ·refine Sr<|Pe Y<|Ct<|Xq<|Xr<|Ri Y Y ?_;show((-1):Int)=_;unfold DN;repeat (split<;>try omega)
 ·refine Sr<|PE 4 Y<|Cd Y (λd=>?_) λd=>?_
  ·refine Sr<|Pe Y<|Ct<|Xq<|Xr<|Ri Y Y ?_;show(1:Int)=_;unfold DN;repeat (split<;>try omega)
  ·refine Ck<|Xb<|Xt<|Sr<|Pe Y<|Ct<|Ri Y Y ?_;show(0:Int)=_;unfold DN;repeat (split<;>try omega)
theorem VF{w:World}{h:Value}{a:(List Int)}{m:Value}{b:(List Int)}(d:Gd.rd w [h] a)(e:Gd.rd w [m] b):Cy 244 [h,m] w (Val w (iv (HF a b))):=by
 have a2:=rM d;have a3:=rM e;refine enter 43 Tryz.func244 Y Y Y<|Sr<|Pe Y<|Cq<|Sr<|Pe Y<|Cb<|Cl (λm_ u w'=>∃(k:Nat),(k<=a.length)/\(k<=b.length)/\(∀i,i<k->a[i]?=b[i]?)/\m_=a.length-k/\Fits u 43 [(0,h),(1,m),(5,nv k)]/\St w ([]) w') ?_ ?_
 ·refine λu w' o c=>⟨_,0,?_,?_,?_,Y,o.wk Y,c⟩
  ·omega
  ·omega
  ·intro i p;omega
 ·rintro m_ u w' ⟨k,a4,a5,p,rfl,o,c⟩;refine D.use ?_ o c;clear o c u w';refine Cq<|Sr<|P2 Y Y<|dl C1s Y (AE d)<|P2 Y Y<|EY 10 Y Y (λx=>?_) λx=>?_
  ·refine P2 Y Y<|dl C1s Y (AE e)<|PE 2 Y<|Cd Y (λy=>?_) λy=>?_
   ·refine Sk<|Cq<|Cb<|Cb<|Cq<|A0 mixed [] (by kernel_rfl)<|tK 8 [0,1] Y ?_;obtain⟨x0,f⟩:=sI a k;obtain⟨z,q,a0⟩:=AC (n:=1) rfl d f;obtain rfl:z=[.int .i64 x0]:=a0;refine Tk 2 Y Y (AJ (l:=a) (j:=k) C1s Y Y Y (λw' c=>rA c d) Y<|lS f)<|Tk 3 Y Y (HI CJ Y Y q Y)<|tK 4 [4,5] Y ?_;obtain⟨y0,g⟩:=sI b k;obtain⟨a1,v,r⟩:=AC (n:=1) rfl e g;obtain rfl:a1=[.int .i64 y0]:=r;refine Tk 6 Y Y (AJ (l:=b) (j:=k) C1s Y Y Y (λw' c=>rA c e) Y<|lS g)<|Tk 7 Y Y (HI CJ Y Y v Y)<|tK 0 [8,9] Y<|tE<|Xt<|AH [0,1,5,18] Y<|Cd Y (λs=>?_) λs=>?_
    ·refine Sr<|Pe Y<|Ct<|Xq<|Xq<|Xr<|Xr<|Xq<|Xr<|Ri Y Y ?_;show((-1):Int)=_;rw[Z5 p f g (by omega)];unfold DN;repeat (split<;>try omega)
    ·refine Cq<|A0 mixed [] (by kernel_rfl)<|tK 8 [0,1] Y<|Tk 2 Y Y (AJ (l:=a) (j:=k) C1s Y Y Y (λw' c=>rA c d) Y<|lS f)<|Tk 3 Y Y (HI CJ Y Y q Y)<|tK 4 [4,5] Y<|Tk 6 Y Y (AJ (l:=b) (j:=k) C1s Y Y Y (λw' c=>rA c e) Y<|lS g)<|Tk 7 Y Y (HI CJ Y Y v Y)<|tK 0 [8,9] Y<|tE<|Xt<|Cd Y (λt=>?_) λt=>?_
     ·refine Sr<|Pe Y<|Ct<|Xq<|Xq<|Xr<|Xr<|Xq<|Xr<|Ri Y Y ?_;show(1:Int)=_;rw[Z5 p f g (by omega)];unfold DN;repeat (split<;>try omega)
     ·refine Ck<|Xb<|Xb<|Xt<|Cr<|p1 Y<|ad (k+1) Y<|Pe Y λu w' o c=>⟨_,?_,k+1,?_,?_,?_,Y,o.wk Y,c⟩
      ·omega
      ·omega
      ·omega
      ·exact DF p f g (by omega)
   ·refine Cx<|Xx<|Xx<|Xe<|Xt<|Sr<|p1 Y<|dl C1s Y (AE e)<|p1 Y<|dl C1s Y (AE d)<|qv A4h Y (λw' c=>KO)<|Pe Y<|Ct<|Ri Y Y ?_;show((DN ((b.length:Nat):Int) ((a.length:Nat):Int)):Int)=_;exact(QS (λi h1 h2=>p i (by omega))).symm
  ·refine PE 5 Y<|G7 Y<|Cx<|Xx<|Xx<|Xe<|Xt<|Sr<|p1 Y<|dl C1s Y (AE e)<|p1 Y<|dl C1s Y (AE d)<|qv A4h Y (λw' c=>KO)<|Pe Y<|Ct ?_;refine Ri Y Y ?_;show((DN ((b.length:Nat):Int) ((a.length:Nat):Int)):Int)=_;exact(QS (λi h1 h2=>p i (by omega))).symm
set_option maxHeartbeats 4000000 in
theorem PR{w:World}{t:List Value}{a:C3t}{z:List Value}{b:C3t}(ae:Gd.rd w t a)(af:Gd.rd w z b):Cy 246 [(.agg t.toArray),(.agg z.toArray)] w (Val w (iv (WH a.k b.k))):=by
 obtain⟨u1,u3,rfl,c,ag⟩:=F3 ae;have an:=rM c;have ao:=rM ag;obtain⟨u7,u9,rfl,d,a0⟩:=F3 af;have ah:=rM d;have ai:=rM a0;refine enter 51 Tryz.func246 Y Y Y<|Sr (bX Y λp=>?_);refine bX Y λr=>?_
 refine Pe Y<|Dh [bx r [u7,u9],bx p [u1,u3]] Y<|Cq<|Sr<|Pe Y<|Cb<|Cl (λm_ ac w'=>∃(k:Nat),(k<=a.k.length)/\(k<=b.k.length)/\(∀i,i<k->∀u v,a.k[i]?=some u->b.k[i]?=some v->HS u v=0)/\m_=a.k.length-k/\Fits ac 51 [(2,pv p),(3,pv r),(5,nv k)]/\St w ([bx r [u7,u9],bx p [u1,u3]]) w') ?_ ?_
 ·refine λac w' s e=>⟨_,0,?_,?_,?_,Y,s.wk Y,e⟩
  ·omega
  ·omega
  ·intro i h;omega
 ·rintro m_ ac w' ⟨k,ar,au,h,rfl,s,e⟩;refine D.use ?_ s e;clear s e ac w';refine Cq<|Sr<|p1 Y<|fl 1 C5T C5m Y<|dl C4y Y (AE c)<|P2 Y Y<|EY 12 Y Y (λa1=>?_) λa1=>?_
  ·refine p1 Y<|fl 0 C5T C5m Y<|dl C4y Y (AE d)<|PE 2 Y<|Cd Y (λa2=>?_) λa2=>?_
   ·refine Sk<|Cq<|Cb<|Cq<|A0 mixed [10,11] (by kernel_rfl)<|Tk 0 Y Y (Db C5T Y Y (q:=0) Y)<|Tk 1 Y Y (lb 1 C5m Y Y Y Y)<|tR 2 Y Y ?_;obtain⟨x0,f⟩:=sI a.k k;obtain⟨aj,a3,m⟩:=AC (n:=2) rfl c f;obtain⟨ap,rfl,a4⟩:=AS m;have ak:=rM a4;refine Tk 3 Y Y (AJ (l:=a.k) (j:=k) C4y Y Y Y (λw' e=>rA e c) Y<|lS f)<|Tk 4 Y Y (EX C4N Y Y a3)<|Tk 5 Y Y (Db C5T Y Y (q:=0) Y)<|Tk 6 Y Y (lb 0 C5m Y Y Y Y)<|tR 7 Y Y ?_;obtain⟨y0,g⟩:=sI b.k k;obtain⟨al,a5,o⟩:=AC (n:=2) rfl d g;obtain⟨aq,rfl,a6⟩:=AS o;have am:=rM a6;refine Tk 8 Y Y (AJ (l:=b.k) (j:=k) C4y Y Y Y (λw' e=>rA e d) Y<|lS g)<|Tk 9 Y Y (EX C4N Y Y a5)<|ty 10 Y Y<|cv A3m Y Y Y Y (λw' e=>K3 (rA e m)<|rA e o) ?_;refine tZ Y<|tW 11 Y Y Y<|tE<|Xt<|AH [2,3,5,6] Y<|Sr<|PE 2 Y<|Cn Y (λa7=>?_) λa7=>?_
    ·refine Sr<|PE 2 Y<|Ct<|Xq<|Xr<|Xr<|Xq<|Xr<|Ri Y Y ?_;show((HS x0 y0):Int)=_;exact kN h f g (by omega)
    ·refine Ck<|Xb<|Xt<|Cr<|p1 Y<|ad (k+1) Y<|Pe Y λac w' s e=>⟨_,?_,k+1,?_,?_,?_,Y,s.wk Y,e⟩
     ·omega
     ·omega
     ·omega
     ·refine AF h ?_;intro x y hx hy;obtain rfl:x=x0:=Option.some.inj (hx.symm.trans f);obtain rfl:y=y0:=Option.some.inj (hy.symm.trans g);omega
   ·refine Cx<|Xx<|Xx<|Xe<|Xt<|Cq<|Cb<|Sr<|fl 1 C5T C5m Y<|dl C4y Y (AE c)<|fl 0 C5T C5m Y<|dl C4y Y (AE d)<|PE 2 Y<|AH [2,3,35] Y<|Cd Y (λa8=>?_) λa8=>?_
    ·refine Sr<|Pe Y<|Ct<|Xq<|Xr<|Ri Y Y ?_;show((-1):Int)=_;rw[<-JB (λi h1 h2=>h i (by omega))];unfold DN;repeat (split<;>try omega)
    ·refine Sr<|fl 1 C5T C5m Y<|dl C4y Y (AE c)<|fl 0 C5T C5m Y<|dl C4y Y (AE d)<|PE 2 Y<|Cd Y (λa9=>?_) λa9=>?_
     ·refine Sr<|Pe Y<|Ct<|Xq<|Xr<|Ri Y Y ?_;show(1:Int)=_;rw[<-JB (λi h1 h2=>h i (by omega))];unfold DN;repeat (split<;>try omega)
     ·refine Ck<|Xb<|Xt<|Sr<|Pe Y<|Ct<|Ri Y Y ?_;show(0:Int)=_;rw[<-JB (λi h1 h2=>h i (by omega))];unfold DN;repeat (split<;>try omega)
  ·refine PE 6 Y<|G7 Y<|Cx<|Xx<|Xx<|Xe<|Xt<|Cq<|Cb<|Sr<|fl 1 C5T C5m Y<|dl C4y Y (AE c)<|fl 0 C5T C5m Y<|dl C4y Y (AE d) ?_;refine PE 2 Y<|AH [2,3,35] Y<|Cd Y (λaa=>?_) λaa=>?_
   ·refine Sr<|Pe Y<|Ct<|Xq<|Xr<|Ri Y Y ?_;show((-1):Int)=_;rw[<-JB (λi h1 h2=>h i (by omega))];unfold DN;repeat (split<;>try omega)
   ·refine Sr<|fl 1 C5T C5m Y<|dl C4y Y (AE c)<|fl 0 C5T C5m Y<|dl C4y Y (AE d)<|PE 2 Y<|Cd Y (λab=>?_) λab=>?_
    ·refine Sr<|Pe Y<|Ct<|Xq<|Xr<|Ri Y Y ?_;show(1:Int)=_;rw[<-JB (λi h1 h2=>h i (by omega))];unfold DN;repeat (split<;>try omega)
    ·refine Ck<|Xb<|Xt<|Sr<|Pe Y<|Ct<|Ri Y Y ?_;show(0:Int)=_;rw[<-JB (λi h1 h2=>h i (by omega))];unfold DN;repeat (split<;>try omega)
theorem OL{w:World}{t:List Value}{a:C3z}{u:List Value}{b:C3z}(a6:Gd.rd w t a)(a7:Gd.rd w u b)(ae:a.q2.length<=12)(af:b.q2.length<=12):Cy 218 [(.agg t.toArray),(.agg u.toArray)] w (Val w (iv (JC a b))):=by
 obtain⟨r,u3,u5,rfl,m,a8,x⟩:=BF a6;have ag:=rM m;have ah:=rM a8;have ai:=rM x;obtain⟨d,z,a0,rfl,f,a1,g⟩:=BF a7;have a9:=rM f;have aa:=rM a1;have ab:=rM g;have aj:([DN b.p3 a.p3,HF (AP a.q2) (AP b.q2),DN b.p9 a.p9,DN a.p0 b.p0]:List Int).length=4:=rfl;refine enter 54 Tryz.func218 Y Y Y<|Sr (bX Y λp=>?_);refine bX Y λn=>?_
 refine Pe Y<|Dh [bx n [.string b.v.p7,d,z,iv b.p3,a0,iv b.p9,iv b.p0],bx p [.string a.v.p7,r,u3,iv a.p3,u5,iv a.p9,iv a.p0]] Y<|Cq<|A0 mixed [21,22,23] (by kernel_rfl)<|Tk 0 Y Y (Db C1c Y Y (q:=3) Y)<|Tk 1 Y Y (lb 0 CJ Y Y Y Y)<|Tk 2 Y Y (Db C1c Y Y (q:=3) Y)<|Tk 3 Y Y (lb 1 CJ Y Y Y Y)<|Tk 5 Y Y (Db C1q Y Y (q:=4) Y)<|Tk 6 Y Y (lb 1 C2J Y Y Y Y)<|Tk 8 Y Y (Db C1q Y Y (q:=4) Y)<|Tk 9 Y Y (lb 0 C2J Y Y Y Y)<|Tk 12 Y Y (Db C1i Y Y (q:=5) Y)<|Tk 13 Y Y (lb 0 CJ Y Y Y Y)<|Tk 14 Y Y (Db C1i Y Y (q:=5) Y)<|Tk 15 Y Y (lb 1 CJ Y Y Y Y)<|Tk 17 Y Y (Db C2O Y Y (q:=6) Y)<|Tk 18 Y Y (lb 1 CJ Y Y Y Y)<|Tk 19 Y Y (Db C2O Y Y (q:=6) Y)<|Tk 20 Y Y (lb 0 CJ Y Y Y Y)<|ty 4 Y Y<|cv A4h Y Y Y Y (λw' c=>KO) ?_;refine tS (λ_ c=>c)<|ty 7 Y Y (YJ A4i Y Y Y Y (λw' c=>QW (rA c x) (by first|assumption|omega|(unfold ED at*;split at* <;>omega))) λak=>?_);refine tS (λ_ c=>c.pk [1,2] Y Y)<|ty 10 Y Y (YJ A4i Y Y Y Y (λw' c=>QW (rA c g) (by first|assumption|omega|(unfold ED at*;split at* <;>omega))) λal=>?_);refine tS (λ_ c=>c.pk [2,3] Y Y)<|ty 11 Y Y<|cv A0b Y Y Y Y (λw' c=>VF (rO (k:=1) c Y)<|rO (k:=0) c Y) ?_;refine tS (λ_ c=>c.pk [2,3] Y Y)<|ty 16 Y Y<|cv A4h Y Y Y Y (λw' c=>KO) ?_;refine tS (λ_ c=>c.pk [2,3] Y Y)<|ty 21 Y Y<|cv A4h Y Y Y Y (λw' c=>KO) ?_;refine tZ Y<|ty 22 Y Y (oO (α:=Int) (xs:=[.tmp 11, .tmp 18, .tmp 23, .tmp 28]) (ys:=[DN b.p3 a.p3,HF (AP a.q2)<|AP b.q2,DN b.p9 a.p9,DN a.p0 b.p0]) C1s vH Y Y Y Y (by decide) (by decide) Y Y λo=>?_);refine tZ Y<|tW 23 Y Y Y<|tE<|Xt<|AH [2,3,5] Y<|AG [0,3,4] Y<|Dh [ov [o] ([DN b.p3 a.p3,HF (AP a.q2)<|AP b.q2,DN b.p9 a.p9,DN a.p0 b.p0]:(List Int)),_,_] Y<|Cq<|Sr<|Pe Y<|Cb<|Cl (λm_ ac w'=>∃(k:Nat),(k<=4)/\(∀i,i<k->∀y,(A5p a b)[i]?=some y->y=0)/\m_=4-k/\Fits ac 54 [(2,pv p),(3,pv n),(5,o),(6,nv k)]/\St w ([ov [o] ([DN b.p3 a.p3,HF (AP a.q2)<|AP b.q2,DN b.p9 a.p9,DN a.p0 b.p0]:(List Int)),bx n [.string b.v.p7,d,z,iv b.p3,a0,iv b.p9,iv b.p0],bx p [.string a.v.p7,r,u3,iv a.p3,u5,iv a.p9,iv a.p0]]) w') ?_ ?_
 ·refine λac w' s c=>⟨_,0,?_,?_,Y,s.wk Y,c⟩
  ·first|assumption|omega|simp
  ·intro i hi;omega
 ·rintro m_ ac w' ⟨k,hk,hi,rfl,s,c⟩;refine D.use ?_ s c;clear s c ac w';refine Cq<|Sr<|P2 Y Y<|q1 Y (B7 0 C1s Y Y Y)<|Pe Y<|Cd Y (λa2=>?_) λa2=>?_
  ·refine Sk<|Cq<|Cb<|Sr<|P2 Y Y ?_;obtain⟨x0,e⟩:=sI ([(DN b.p3 a.p3),(HF (AP a.q2) (AP b.q2)),(DN b.p9 a.p9),(DN a.p0 b.p0)]) k;refine q1 Y (AJ (l:=([DN b.p3 a.p3,HF (AP a.q2)<|AP b.q2,DN b.p9 a.p9,DN a.p0 b.p0])) (j:=k) C1s Y Y Y (λw' c=>rO (k:=0) c Y) Y<|lS e)<|q1 Y (lo (α:=Int) 0 CJ Y Y Y e)<|Pe Y<|Cn Y (λa3=>?_) λa3=>?_
   ·refine Sr<|P2 Y Y<|q1 Y (AJ (l:=([DN b.p3 a.p3,HF (AP a.q2)<|AP b.q2,DN b.p9 a.p9,DN a.p0 b.p0])) (j:=k) C1s Y Y Y (λw' c=>rO (k:=0) c Y) Y<|lS e)<|q1 Y (lo (α:=Int) 0 CJ Y Y Y e)<|Pe Y<|Ct<|Xq<|Xr<|Xr<|Xq<|Xr<|Ri Y Y ?_;show(x0:Int)=_;exact A2Y e hi (by omega)
   ·refine Ck<|Xb<|Xt<|Cr<|p1 Y<|ad (k+1) Y<|Pe Y λac w' s c=>⟨_,?_,k+1,?_,?_,Y,s.wk Y,c⟩
    ·omega
    ·first|assumption|omega|simp
    ·refine AF hi ?_;intro y hy;obtain rfl:y=x0:=Option.some.inj (hy.symm.trans e);omega
  ·refine Cx<|Xx<|Xx<|Xe<|Xt<|Sr<|q1 Y (Db C1t Y Y (q:=0) Y)<|fl 2 C5w C5m Y<|q1 Y (FJ (vs:=[(0,r)]) (xs:=[(0,[r])]) (cs:=[r,nS]) C6k Y ⟨Y,AO<|A2 m,trivial⟩ Y Y)<|q1 Y (Db C1t Y Y (q:=0) Y)<|fl 1 C5w C5m Y<|q1 Y (FJ (vs:=[(0,d)]) (xs:=[(0,[d])]) (cs:=[d,nS]) C6k Y ⟨Y,AO<|A2 f,trivial⟩ Y Y) ?_;have a4:Gd.rd w [r,nS] (⟨a.v.k,[]⟩:C3t):=P1 (⟨a.v.k,[]⟩:C3t) m O4;have a5:Gd.rd w [d,nS] (⟨b.v.k,[]⟩:C3t):=P1 (⟨b.v.k,[]⟩:C3t) f O4;refine qv A3u Y (λw' c=>PR (rA c a4)<|rA c a5)<|Pe Y<|Ct<|Ri Y Y ?_;show((WH (⟨a.v.k,[]⟩:C3t).k (⟨b.v.k,[]⟩:C3t).k):Int)=_;exact A2Z (λi h=>hi i (by omega))
theorem N2{w:World}{h:List Value}{c:C3z}(i:Gd.rd w h c)(hn:DJ c.v<=1048576)(ht:c.q2.length<=1048576):Cy 217 [(.agg h.toArray)] w (HH w (c:C3z)):=by
 obtain⟨u,z,u5,rfl,o,p,j⟩:=BF i;have a1:=rM o;have a2:=rM p;have a3:=rM j;have l:=AQ i;refine enter 16 Tryz.func217 Y Y Y<|Sr (bX Y λt=>?_);refine aL C2I Y λs=>?_
 refine Dx<|Dh [bx s [eS,nS,nS,iv 0,nS,iv 0,iv 0],bx t [.string c.v.p7,u,z,iv c.p3,u5,iv c.p9,iv c.p0]] Y<|Cq<|A0 mixed [13] (by kernel_rfl)<|Tk 0 Y Y (Db C1t Y Y (q:=0) Y)<|Tk 1 Y Y (H2 (es:=[.string c.v.p7,u,z]) 1 C6p Y Y Y Y)<|Tk 3 Y Y (Db C1c Y Y (q:=3) Y)<|Tk 4 Y Y (lb 1 CJ Y Y Y Y)<|Tk 5 Y Y (Db C1q Y Y (q:=4) Y)<|Tk 6 Y Y (lb 1 C2J Y Y Y Y)<|Tk 8 Y Y (Db C1i Y Y (q:=5) Y)<|Tk 9 Y Y (lb 1 CJ Y Y Y Y)<|Tk 10 Y Y (Db C2O Y Y (q:=6) Y)<|Tk 11 Y Y (lb 1 CJ Y Y Y Y)<|ty 2 Y Y (zE Y B2j Y Y Y Y (λw' d=>QR (rA d l) hn) λa0=>?_);refine Dp (λw' d=>KT<|rO (k:=0) d Y) ?_;rintro⟨a,b,rfl,m,n⟩;refine tS (λ_ d=>d.pk [1,2] Y Y)<|ty 7 Y Y (YJ A6R Y Y Y Y (λw' d=>dS (rA d j) (by first|assumption|omega|(unfold ED at*;split at* <;>omega))) λe=>?_);refine tS (λ_ d=>d.pk [2,3] Y Y)<|Dp (λw' d=>CZ (k:=0) d Y) ?_;intro g;refine Tj 12 Y Y (λ_ d=>d.pk [2,3] Y Y) (FJ (vs:=[(0,(.agg #[.string c.v.p7,a,b])),(1,iv c.p3),(2,e),(3,iv c.p9),(4,iv c.p0)]) (xs:=[(0,[.string c.v.p7,a,b]),(1,[iv c.p3]),(2,[e]),(3,[iv c.p9]),(4,[iv c.p0])]) (cs:=[.string c.v.p7,a,b,iv c.p3,e,iv c.p9,iv c.p0]) C2x Y ⟨Y,Y,⟨Y,Y,⟨Y,AO g,⟨Y,Y,⟨Y,Y,trivial⟩⟩⟩⟩⟩ Y Y)<|ty 13 Y Y<|AZ (vs:=[.string c.v.p7,a,b,iv c.p3,e,iv c.p9,iv c.p0]) (cs':=[.string c.v.p7,a,b,iv c.p3,e,iv c.p9,iv c.p0]) 2 C1m Y Y Y Y Y Y (AB Y<|AB m<|AB n<|AB Y<|AB g<|AB Y<|AB Y BR) (by simp) Y ?_;refine tZ Y<|tE<|Xt<|Ct<|AG [1,0,2,3] Y<|BB (α:=ByteArray) (β:=(List C1G)×(List C1J)) (c1:=[.string c.v.p7]) (c2:=[a,b]) (x:=c.v.p7) (y:=(c.v.k,c.v.f)) Y Y<|BZ [] 1 Y<|BB (α:=List C1G) (β:=List C1J) (c1:=[a]) (c2:=[b]) (x:=c.v.k) (y:=c.v.f) Y Y<|BZ [1] 0 Y<|AG [1,0,2,3,4] Y<|FO (r:=(c:C3z)) (eW 1 C1g Y Y Y λw' d=>A7 (k:=0) d Y ?_);show(c:C3z)=c
 cases c;rfl
end Go.Sy.Cmp1
