/-
  Contracts of functions of the program, walked (printed by a program of ours).
  Conditions: those that each theorem states.
-/
import Derived.Test.YtfmjgnjaoihefaaGreatDoorFct
import Derived.Test.YtfmjgnjaoihefaaGreatDoorNum3
import Derived.Test.YtfmjgnjaoihefaaGreatDoorCho2
import Derived.Test.YtfmjgnjaoihefaaGreatDoorFal2
import Derived.Test.YtfmjgnjaoihefaaGreatDoorChs
import Derived.Test.YtfmjgnjaoihefaaGreatDoorOwn2
set_option linter.unusedVariables false
set_option maxRecDepth 20000
namespace Go.Sy.Cmp1
open Go Go.RowKit Go.Proofs Go.Sy
open Go.Sy.Bel1 Go.Sy.Ev1 Go.Sy.Ev2 Go.Sy.Ev3 Go.Sy.Fmt1 Go.Sy.Eng1 Go.Sy.Eng2 Go.Sy.Eng3 Go.Sy.Num1 Go.Sy.Num2 Go.Sy.Fal2 Go.Sy.Cho2 Go.Sy.Pdqs Go.Sy.Fal1
theorem QW{w:World}{e:Value}{l:(List Int)}(b:Gd.rd w [e] l)(hl:l.length<=1048576):Cy 244 [e] w (HH w (AP l:(List Int))):=by
 have a0:=rM b;refine enter 54 Tryz.func244 Y Y Y (Sr (Pe Y (Sr (li Y (FL (α:=Int) BS Y Y Y λv2=>?_)))));refine Pe Y (Dh ([ov [v2] ([]:(List Int))]) Y (Cq (Sr (Pe Y (Cb (Cl (λm_ ac w'=>∃(i:Nat),∃(va:Value),(i<=l.length)/\m_=l.length-i/\Fits ac 54 [(0,e),(3,va),(4,(nv i))]/\St w ([ov [va] (AP (l.take i):(List Int))]) w') ?_ ?_))))))
 ·refine A3 0 Y (show([]:(List Int))=AP (l.take 0) from by exact mX l) (λac w' hf hs=>⟨_,0,v2,?_,Y,hf.wk Y,hs⟩)
  ·first|assumption|omega|simp
 ·rintro m_ ac w' ⟨i,va,hil,rfl,hf,hs⟩;refine D.use ?_ hf hs;clear hf hs ac w';have hfl:(AP (l.take i)).length=i:=by rw[QP,List.length_take];omega
  refine Cq (Sr (P2 Y Y (dl BS Y (AE b) (Pe Y (Dh ([_]) Y (Cd Y (λq=>?_) (λq=>?_)))))))
  ·refine Sk (Cq (Cb (Sr (p1 Y (q1 Y (B7 0 BS Y Y Y) (Pe Y (Sr (P3 Y Y Y ?_))))))));obtain⟨a,c⟩:=sI l i;obtain⟨s,f,t⟩:=AC (n:=1) rfl b c;obtain rfl:s=[.int .i64 a]:=t;refine q1 Y (AJ (l:=l) (j:=i) BS Y Y Y (λw' hs=>(rA hs b)) Y (lS c)) (q1 Y (HI CJ Y Y f Y) (li Y (FF BS vH Y (by decide) (by decide) Y Y Y Y Y Y λg7=>?_)));refine O7 a (AG [2,0,1] Y (li Y (GZ BS vH Y (by decide) Y Y Y Y Y Y (by omega) (by omega) λx=>?_)));refine Pe Y (Dh ([ov [x] ((AP (l.take i))++ [a]:(List Int))]) Y (Cq (Cb (Cl (λm_ ac w'=>∃(k:Nat),∃(vb:Value),(k<=i)/\(∀p,k<=p->∀y,(AP (l.take i))[p]?=some y->y<a)/\m_=k+1/\Fits ac 54 [(0,e),(3,vb),(4,(nv i)),(5,(nv k))]/\St w ([ov [vb] (IF (AP (l.take i)) a k:(List Int))]) w') ?_ ?_))))
   ·refine A3 0 Y (show((AP (l.take i))++ [a]:(List Int))=IF (AP (l.take i)) a ((AP (l.take i)).length) from by rw[XU,hfl]) (λac w' hf hs=>⟨_,(AP (l.take i)).length,x,?_,?_,Y,hf.wk Y,hs⟩)
    ·first|assumption|omega|simp
    ·intro p hp y hy;have:=lS hy;omega
   ·rintro m_ ac w' ⟨k,vb,hki,hlo,rfl,hf,hs⟩;refine D.use ?_ hf hs;clear hf hs ac w';have hsl:(IF (AP (l.take i)) a k).length=i+1:=by rw[kJ (by omega)];omega
    refine Cq (Cq (A0 mixed [] (by kernel_rfl) (tK 11 [0,1,2] Y (EY 24 Y Y (λu=>?_) (λu=>?_)))))
    ·refine tK 9 [3,4] Y (Tk 5 Y Y (B3 Y Y Y (r:=((k-1:Nat):Int)) (by omega) (by omega)) ?_);obtain⟨v,d⟩:=sI (IF (AP (l.take i)) a k) (k-1);refine Tk 6 Y Y (AJ (l:=(IF (AP (l.take i)) a k)) (j:=(k-1)) BS Y Y Y (λw' hs=>(rO (k:=0) hs Y)) Y (lS d)) (Tk 7 Y Y (lo (α:=Int) 0 CJ Y Y Y d) (tK 4 [8,9] Y (Tk 10 Y Y (AJ (l:=l) (j:=i) BS Y Y Y (λw' hs=>(rA hs b)) Y (lS c)) (Tk 11 Y Y (HI CJ Y Y f Y) (tK 0 [12,13] Y (tE (Xt (Dh ([_]) Y (Cd Y (λo=>?_) (λo=>?_))))))))))
     ·refine Sk (Cb (Sr (P3 Y Y Y (p1 Y (q1 Y (B3 Y Y Y (r:=((k-1:Nat):Int)) (by omega) (by omega)) (q1 Y (AJ (l:=(IF (AP (l.take i)) a k)) (j:=(k-1)) BS Y Y Y (λw' hs=>(rO (k:=0) hs Y)) Y (lS d)) (q1 Y (lo (α:=Int) 0 CJ Y Y Y d) ?_)))))));obtain⟨a1,g⟩:=sI (IF (AP (l.take i)) a k) k;refine q1 Y (AJ (l:=(IF (AP (l.take i)) a k)) (j:=k) BS Y Y Y (λw' hs=>(rO (k:=0) hs Y)) Y (lS g)) (li Y (so (α:=Int) (z:=v) 0 PC Y Y Y Y Y (lS g) ?_));refine Dx (AH [0,3,4,5] Y (Dh ([ov [vb] ((IF (AP (l.take i)) a k).set k v:(List Int))]) Y (Cr (p1 Y (q1 Y (B3 Y Y Y (r:=((k-1:Nat):Int)) (by omega) (by omega)) (p1 Y (De (Xb (Xt (A3 0 Y (show((IF (AP (l.take i)) a k).set k v:(List Int))=IF (AP (l.take i)) a (k-1) from by exact dK (by omega) (by omega) d) (λac w' hf hs=>⟨_,?_,k-1,vb,?_,?_,Y,hf.wk Y,hs⟩)))))))))))
      ·omega
      ·first|assumption|omega|simp
      ·exact tA (p:=(·<a)) ⟨by omega,by omega⟩ hlo d (by omega)
     ·refine Cx (Xx (Xx (Xe (Xt (Cr (P3 Y Y Y (p1 Y (q1 Y (AJ (l:=l) (j:=i) BS Y Y Y (λw' hs=>(rA hs b)) Y (lS c)) (q1 Y (HI CJ Y Y f Y) ?_)))))))));obtain⟨a2,h⟩:=sI (IF (AP (l.take i)) a k) k;refine q1 Y (AJ (l:=(IF (AP (l.take i)) a k)) (j:=k) BS Y Y Y (λw' hs=>(rO (k:=0) hs Y)) Y (lS h)) (li Y (so (α:=Int) (z:=a) 0 PC Y Y Y Y Y (lS h) ?_));refine De (Xb (Xt (AH [0,3,4] Y (Dh ([ov [vb] ((IF (AP (l.take i)) a k).set k a:(List Int))]) Y (Cr (p1 Y (ad (i+1) Y (Pe Y (A3 0 Y (show((IF (AP (l.take i)) a k).set k a:(List Int))=AP (l.take (i+1)) from by exact tH c hki hlo (by exact .inr ⟨_,d,by omega⟩)) (λac w' hf hs=>⟨_,?_,i+1,vb,?_,Y,hf.wk Y,hs⟩))))))))))
      ·omega
      ·first|assumption|omega|simp
    ·refine tK 0 [3,4,5,6,7,8,9,10,11,12,13] Y (tE (Xt (Dh ([_]) Y (G7 Y (Cx (Xx (Xx (Xe (Xt (Cr (P3 Y Y Y (p1 Y (q1 Y (AJ (l:=l) (j:=i) BS Y Y Y (λw' hs=>(rA hs b)) Y (lS c)) (q1 Y (HI CJ Y Y f Y) ?_))))))))))))));obtain⟨a3,m⟩:=sI (IF (AP (l.take i)) a k) k;refine q1 Y (AJ (l:=(IF (AP (l.take i)) a k)) (j:=k) BS Y Y Y (λw' hs=>(rO (k:=0) hs Y)) Y (lS m)) (li Y (so (α:=Int) (z:=a) 0 PC Y Y Y Y Y (lS m) ?_));refine De (Xb (Xt (AH [0,3,4] Y (Dh ([ov [vb] ((IF (AP (l.take i)) a k).set k a:(List Int))]) Y (Cr (p1 Y (ad (i+1) Y (Pe Y (A3 0 Y (show((IF (AP (l.take i)) a k).set k a:(List Int))=AP (l.take (i+1)) from by exact tH c hki hlo (by left;omega)) (λac w' hf hs=>⟨_,?_,i+1,vb,?_,Y,hf.wk Y,hs⟩))))))))))
     ·omega
     ·first|assumption|omega|simp
  ·refine Cx (Xx (Xx (Xe (Xt (Sr (P2 Y Y (Dx (Ct (FV Y Y λw' hs=>A7 (k:=0) hs Y ?_)))))))));show AP (l.take i)=AP l;exact mY (by omega)
theorem KO{w:World}{a:Int}{b:Int}:Cy 242 [(iv a),(iv b)] w (Val w (iv (DN a b))):=by
 refine enter 13 Tryz.func242 Y Y Y (Sr (Pe Y (Cq (Cb (Sr (P3 Y Y Y (Pe Y (Cd Y (λc=>?_) (λc=>?_)))))))))
 ·refine Sr (Pe Y (Ct (Xq (Xr (Ri Y Y ?_)))));show((-1):Int)=_;unfold DN;repeat (split<;>try omega)
 ·refine Sr (P3 Y Y Y (Pe Y (Cd Y (λd=>?_) (λd=>?_))))
  ·refine Sr (Pe Y (Ct (Xq (Xr (Ri Y Y ?_)))));show(1:Int)=_;unfold DN;repeat (split<;>try omega)
  ·refine Ck (Xb (Xt (Sr (Pe Y (Ct (Ri Y Y ?_))))));show(0:Int)=_;unfold DN;repeat (split<;>try omega)
theorem VF{w:World}{g:Value}{a:(List Int)}{h:Value}{b:(List Int)}(c:Gd.rd w [g] a)(d:Gd.rd w [h] b):Cy 243 [g,h] w (Val w (iv (HF a b))):=by
 have x:=rM c;have y:=rM d;refine enter 43 Tryz.func243 Y Y Y (Sr (Pe Y (Cq (Sr (Pe Y (Cb (Cl (λm_ ac w'=>∃(k:Nat),(k<=a.length)/\(k<=b.length)/\(∀i,i<k->a[i]?=b[i]?)/\m_=a.length-k/\Fits ac 43 [(0,g),(1,h),(5,(nv k))]/\St w ([]) w') ?_ ?_)))))))
 ·refine λac w' hf hs=>⟨_,0,?_,?_,?_,Y,hf.wk Y,hs⟩
  ·omega
  ·omega
  ·intro i hi;omega
 ·rintro m_ ac w' ⟨k,hka,hkb,hi,rfl,hf,hs⟩;refine D.use ?_ hf hs;clear hf hs ac w';refine Cq (Sr (P2 Y Y (dl BS Y (AE c) (P2 Y Y (EY 10 Y Y (λr=>?_) (λr=>?_))))))
  ·refine P2 Y Y (dl BS Y (AE d) (P2 Y Y (Dx (Cd Y (λs=>?_) (λs=>?_)))))
   ·refine Sk (Cq (Cb (Cb (Cq (A0 mixed [] (by kernel_rfl) (tK 8 [0,1] Y ?_))))));obtain⟨z,e⟩:=sI a k;obtain⟨t,m,u⟩:=AC (n:=1) rfl c e;obtain rfl:t=[.int .i64 z]:=u;refine Tk 2 Y Y (AJ (l:=a) (j:=k) BS Y Y Y (λw' hs=>(rA hs c)) Y (lS e)) (Tk 3 Y Y (HI CJ Y Y m Y) (tK 4 [4,5] Y ?_));obtain⟨y0,f⟩:=sI b k;obtain⟨v,at9,o⟩:=AC (n:=1) rfl d f;obtain rfl:v=[.int .i64 y0]:=o;refine Tk 6 Y Y (AJ (l:=b) (j:=k) BS Y Y Y (λw' hs=>(rA hs d)) Y (lS f)) (Tk 7 Y Y (HI CJ Y Y at9 Y) (tK 0 [8,9] Y (tE (Xt (AH [0,1,5,18] Y (Cd Y (λp=>?_) (λp=>?_)))))))
    ·refine Sr (Pe Y (Ct (Xq (Xq (Xr (Xr (Xq (Xr (Ri Y Y ?_)))))))));show((-1):Int)=_;rw[Z5 hi e f (by omega)];unfold DN;repeat (split<;>try omega)
    ·refine Cq (A0 mixed [] (by kernel_rfl) (tK 8 [0,1] Y (Tk 2 Y Y (AJ (l:=a) (j:=k) BS Y Y Y (λw' hs=>(rA hs c)) Y (lS e)) (Tk 3 Y Y (HI CJ Y Y m Y) (tK 4 [4,5] Y (Tk 6 Y Y (AJ (l:=b) (j:=k) BS Y Y Y (λw' hs=>(rA hs d)) Y (lS f)) (Tk 7 Y Y (HI CJ Y Y at9 Y) (tK 0 [8,9] Y (tE (Xt (Cd Y (λq=>?_) (λq=>?_))))))))))))
     ·refine Sr (Pe Y (Ct (Xq (Xq (Xr (Xr (Xq (Xr (Ri Y Y ?_)))))))));show(1:Int)=_;rw[Z5 hi e f (by omega)];unfold DN;repeat (split<;>try omega)
     ·refine Ck (Xb (Xb (Xt (Cr (p1 Y (ad (k+1) Y (Pe Y (λac w' hf hs=>⟨_,?_,k+1,?_,?_,?_,Y,hf.wk Y,hs⟩))))))))
      ·omega
      ·omega
      ·omega
      ·exact DF hi e f (by omega)
   ·refine Cx (Xx (Xx (Xe (Xt (Sr (p1 Y (dl BS Y (AE d) (p1 Y (dl BS Y (AE c) (qv bF Y (λw' hs=>KO) (Pe Y (Ct (Ri Y Y ?_)))))))))))));show((DN ((b.length:Nat):Int) ((a.length:Nat):Int)):Int)=_;exact(QS (λi h1 h2=>hi i (by omega))).symm
  ·refine n1 Y (n1 Y (n1 Y (n1 Y (Pe Y (G7 Y (Cx (Xx (Xx (Xe (Xt (Sr (p1 Y (dl BS Y (AE d) (p1 Y (dl BS Y (AE c) (qv bF Y (λw' hs=>KO) (Pe Y (Ct ?_))))))))))))))))));refine Ri Y Y ?_;show((DN ((b.length:Nat):Int) ((a.length:Nat):Int)):Int)=_;exact(QS (λi h1 h2=>hi i (by omega))).symm
theorem II{w:World}{h:Value}{a:(List Fact)}{m:Value}{b:(List Fact)}(c:Gd.rd w [h] a)(d:Gd.rd w [m] b)(t:Tb w):Cy 233 [h,m] w (Val w (iv (WH a b))):=by
 have a5:=rM c;have a6:=rM d;refine enter 36 Tryz.func233 Y Y Y (Sr (Pe Y (Cq (Sr (Pe Y (Cb (Cl (λm_ ac w'=>∃(k:Nat),(k<=a.length)/\(k<=b.length)/\(∀i,i<k->∀u v,a[i]?=some u->b[i]?=some v->HS u v=0)/\m_=a.length-k/\Fits ac 36 [(0,h),(1,m),(5,(nv k))]/\St w ([]) w') ?_ ?_)))))))
 ·refine λac w' hf hs=>⟨_,0,?_,?_,?_,Y,hf.wk Y,hs⟩
  ·omega
  ·omega
  ·intro i hi;omega
 ·rintro m_ ac w' ⟨k,hka,hkb,hi,rfl,hf,hs⟩;refine D.use ?_ hf hs;clear hf hs ac w';refine Cq (Sr (P2 Y Y (dl B1 Y (AE c) (P2 Y Y (EY 11 Y Y (λz=>?_) (λz=>?_))))))
  ·refine P2 Y Y (dl B1 Y (AE d) (P2 Y Y (Dx (Cd Y (λa0=>?_) (λa0=>?_)))))
   ·refine Sk (Cq (Cb (Cq (A0 mixed [8,9] (by kernel_rfl) (tK 8 [0,1] Y ?_)))));obtain⟨x0,e⟩:=sI a k;obtain⟨a7,a1,o⟩:=AC (n:=2) rfl c e;obtain⟨u9,rfl,p⟩:=AS o;have a2:=rM p;refine Tk 2 Y Y (AJ (l:=a) (j:=k) B1 Y Y Y (λw' hs=>(rA hs c)) Y (lS e)) (Tk 3 Y Y (EX C3 Y Y a1) (tK 4 [4,5] Y ?_));obtain⟨y0,f⟩:=sI b k;obtain⟨a3,q,g⟩:=AC (n:=2) rfl d f;obtain⟨a8,rfl,r⟩:=AS g;have a4:=rM r;refine Tk 6 Y Y (AJ (l:=b) (j:=k) B1 Y Y Y (λw' hs=>(rA hs d)) Y (lS f)) (Tk 7 Y Y (EX C3 Y Y q) (ty 8 Y Y (cv A0I Y Y Y Y (λw' hs=>(K2 (rA hs o) (rA hs g) (Tb.ext t hs.bel))) ?_)));refine tZ Y (tW 9 Y Y Y (tE (Xt (AH [0,1,5,6] Y (Sr (P2 Y Y (Dx (Cn Y (λs=>?_) (λs=>?_)))))))))
    ·refine Sr (P2 Y Y (Dx (Ct (Xq (Xr (Xr (Xq (Xr (Ri Y Y ?_)))))))));show((HS x0 y0):Int)=_;exact kN hi e f (by omega)
    ·refine Ck (Xb (Xt (Cr (p1 Y (ad (k+1) Y (Pe Y (λac w' hf hs=>⟨_,?_,k+1,?_,?_,?_,Y,hf.wk Y,hs⟩)))))))
     ·omega
     ·omega
     ·omega
     ·refine AF hi ?_;intro x y hx hy;obtain rfl:x=x0:=Option.some.inj (hx.symm.trans e);obtain rfl:y=y0:=Option.some.inj (hy.symm.trans f);omega
   ·refine Cx (Xx (Xx (Xe (Xt (Sr (p1 Y (dl B1 Y (AE c) (p1 Y (dl B1 Y (AE d) (qv LP Y (λw' hs=>BP) (Pe Y (Ct (Ri Y Y ?_)))))))))))));show((DN ((a.length:Nat):Int) ((b.length:Nat):Int)):Int)=_;exact JB (λi h1 h2=>hi i (by omega))
  ·refine n1 Y (n1 Y (n1 Y (n1 Y (Pe Y (G7 Y (Cx (Xx (Xx (Xe (Xt (Sr (p1 Y (dl B1 Y (AE c) (p1 Y (dl B1 Y (AE d) (qv LP Y (λw' hs=>BP) (Pe Y (Ct ?_))))))))))))))))));refine Ri Y Y ?_;show((DN ((a.length:Nat):Int) ((b.length:Nat):Int)):Int)=_;exact JB (λi h1 h2=>hi i (by omega))
set_option maxHeartbeats 4000000 in
theorem PR{w:World}{m:List Value}{a:Token}{o:List Value}{b:Token}(a7:Gd.rd w m a)(a8:Gd.rd w o b):Cy 245 [(.agg m.toArray),(.agg o.toArray)] w (Val w (iv (WH a.Facts b.Facts))):=by
 obtain⟨u1,u3,rfl,c,a9⟩:=F3 a7;have ai:=rM c;have aj:=rM a9;obtain⟨u7,u9,rfl,d,p⟩:=F3 a8;have aa:=rM d;have ab:=rM p;refine enter 51 Tryz.func245 Y Y Y (Sr (bX Y λg13=>?_));refine bX Y λg14=>?_
 refine Pe Y (Dh ([bx g14 [u7,u9],bx g13 [u1,u3]]) Y (Cq (Sr (Pe Y (Cb (Cl (λm_ ac w'=>∃(k:Nat),(k<=a.Facts.length)/\(k<=b.Facts.length)/\(∀i,i<k->∀u v,a.Facts[i]?=some u->b.Facts[i]?=some v->HS u v=0)/\m_=a.Facts.length-k/\Fits ac 51 [(2,(pv g13)),(3,(pv g14)),(5,(nv k))]/\St w ([bx g14 [u7,u9],bx g13 [u1,u3]]) w') ?_ ?_))))))
 ·refine λac w' hf hs=>⟨_,0,?_,?_,?_,Y,hf.wk Y,hs⟩
  ·omega
  ·omega
  ·intro i hi;omega
 ·rintro m_ ac w' ⟨k,hka,hkb,hi,rfl,hf,hs⟩;refine D.use ?_ hf hs;clear hf hs ac w';refine Cq (Sr (p1 Y (fl 1 FA HK Y (dl B1 Y (AE c) (P2 Y Y (EY 12 Y Y (λr=>?_) (λr=>?_)))))))
  ·refine p1 Y (fl 0 FA HK Y (dl B1 Y (AE d) (P2 Y Y (Dx (Cd Y (λs=>?_) (λs=>?_))))))
   ·refine Sk (Cq (Cb (Cq (A0 mixed [10,11] (by kernel_rfl) (Tk 0 Y Y (Db FA Y Y (q:=0) Y) (Tk 1 Y Y (lb 1 HK Y Y Y Y) (tR 2 Y Y ?_)))))));obtain⟨x0,e⟩:=sI a.Facts k;obtain⟨ae,t,g⟩:=AC (n:=2) rfl c e;obtain⟨ak,rfl,z⟩:=AS g;have af:=rM z;refine Tk 3 Y Y (AJ (l:=a.Facts) (j:=k) B1 Y Y Y (λw' hs=>(rA hs c)) Y (lS e)) (Tk 4 Y Y (EX C3 Y Y t) (Tk 5 Y Y (Db FA Y Y (q:=0) Y) (Tk 6 Y Y (lb 0 HK Y Y Y Y) (tR 7 Y Y ?_))));obtain⟨y0,f⟩:=sI b.Facts k;obtain⟨ag,a0,h⟩:=AC (n:=2) rfl d f;obtain⟨al,rfl,a1⟩:=AS h;have ah:=rM a1;refine Tk 8 Y Y (AJ (l:=b.Facts) (j:=k) B1 Y Y Y (λw' hs=>(rA hs d)) Y (lS f)) (Tk 9 Y Y (EX C3 Y Y a0) (ty 10 Y Y (cv A0J Y Y Y Y (λw' hs=>(K3 (rA hs g) (rA hs h))) ?_)));refine tZ Y (tW 11 Y Y Y (tE (Xt (AH [2,3,5,6] Y (Sr (P2 Y Y (Dx (Cn Y (λa2=>?_) (λa2=>?_)))))))))
    ·refine Sr (P2 Y Y (Dx (Ct (Xq (Xr (Xr (Xq (Xr (Ri Y Y ?_)))))))));show((HS x0 y0):Int)=_;exact kN hi e f (by omega)
    ·refine Ck (Xb (Xt (Cr (p1 Y (ad (k+1) Y (Pe Y (λac w' hf hs=>⟨_,?_,k+1,?_,?_,?_,Y,hf.wk Y,hs⟩)))))))
     ·omega
     ·omega
     ·omega
     ·refine AF hi ?_;intro x y hx hy;obtain rfl:x=x0:=Option.some.inj (hx.symm.trans e);obtain rfl:y=y0:=Option.some.inj (hy.symm.trans f);omega
   ·refine Cx (Xx (Xx (Xe (Xt (Cq (Cb (Sr (fl 1 FA HK Y (dl B1 Y (AE c) (fl 0 FA HK Y (dl B1 Y (AE d) (P2 Y Y (Dx (AH [2,3,35] Y (Cd Y (λa3=>?_) (λa3=>?_))))))))))))))))
    ·refine Sr (Pe Y (Ct (Xq (Xr (Ri Y Y ?_)))));show((-1):Int)=_;rw[<-JB (λi h1 h2=>hi i (by omega))];unfold DN;repeat (split<;>try omega)
    ·refine Sr (fl 1 FA HK Y (dl B1 Y (AE c) (fl 0 FA HK Y (dl B1 Y (AE d) (P2 Y Y (Dx (Cd Y (λa4=>?_) (λa4=>?_))))))))
     ·refine Sr (Pe Y (Ct (Xq (Xr (Ri Y Y ?_)))));show(1:Int)=_;rw[<-JB (λi h1 h2=>hi i (by omega))];unfold DN;repeat (split<;>try omega)
     ·refine Ck (Xb (Xt (Sr (Pe Y (Ct (Ri Y Y ?_))))));show(0:Int)=_;rw[<-JB (λi h1 h2=>hi i (by omega))];unfold DN;repeat (split<;>try omega)
  ·refine n1 Y (n1 Y (n1 Y (n1 Y (n1 Y (Pe Y (G7 Y (Cx (Xx (Xx (Xe (Xt (Cq (Cb (Sr (fl 1 FA HK Y (dl B1 Y (AE c) (fl 0 FA HK Y (dl B1 Y (AE d) ?_))))))))))))))))));refine P2 Y Y (Dx (AH [2,3,35] Y (Cd Y (λa5=>?_) (λa5=>?_))))
   ·refine Sr (Pe Y (Ct (Xq (Xr (Ri Y Y ?_)))));show((-1):Int)=_;rw[<-JB (λi h1 h2=>hi i (by omega))];unfold DN;repeat (split<;>try omega)
   ·refine Sr (fl 1 FA HK Y (dl B1 Y (AE c) (fl 0 FA HK Y (dl B1 Y (AE d) (P2 Y Y (Dx (Cd Y (λa6=>?_) (λa6=>?_))))))))
    ·refine Sr (Pe Y (Ct (Xq (Xr (Ri Y Y ?_)))));show(1:Int)=_;rw[<-JB (λi h1 h2=>hi i (by omega))];unfold DN;repeat (split<;>try omega)
    ·refine Ck (Xb (Xt (Sr (Pe Y (Ct (Ri Y Y ?_))))));show(0:Int)=_;rw[<-JB (λi h1 h2=>hi i (by omega))];unfold DN;repeat (split<;>try omega)
set_option maxHeartbeats 4000000 in
theorem OK{w:World}{m:List Value}{a:Choice}{n:List Value}{b:Choice}(o:Gd.rd w m a)(p:Gd.rd w n b)(r:Tb w)(ag:a.Times.length<=12)(ah:b.Times.length<=12):Cy 171 [(.agg m.toArray),(.agg n.toArray)] w (Val w (iv (JC a b))):=by
 obtain⟨u1,u3,u5,rfl,g,a8,s⟩:=BF o;have ai:=rM g;have aj:=rM a8;have ak:=rM s;have a9:=AQ o;obtain⟨t,u,v,rfl,e,x,f⟩:=BF p;have aa:=rM e;have ab:=rM x;have ae:=rM f;have af:=AQ p;have hfa:=QP a.Times;have hfb:=QP b.Times;refine enter 91 Tryz.func171 Y Y Y (Sr (bX Y λg21=>?_));refine bX Y λg22=>?_
 refine Pe Y (Dh ([bx g22 [(.string b.Match.Rule),t,u,(iv b.Priority),v,(iv b.Specific),(iv b.Order)],bx g21 [(.string a.Match.Rule),u1,u3,(iv a.Priority),u5,(iv a.Specific),(iv a.Order)]]) Y (Cq (Sr (fl 1 J4 CJ Y (fl 0 J4 CJ Y (Pe Y (Cn Y (λy=>?_) (λy=>?_))))))))
 ·refine Sr (fl 0 J4 CJ Y (fl 1 J4 CJ Y (qv LP Y (λw' hs=>BP) (Pe Y (Ct (Xr (Ri Y Y ?_)))))));show((DN b.Priority a.Priority):Int)=_;exact A5o (by omega)
 ·refine Sk (Cq (A0 mixed [5,6,7] (by kernel_rfl) (Tk 0 Y Y (Db IL Y Y (q:=4) Y) (Tk 1 Y Y (lb 1 H7 Y Y Y Y) (Tk 3 Y Y (Db IL Y Y (q:=4) Y) (Tk 4 Y Y (lb 0 H7 Y Y Y Y) (ty 2 Y Y (YJ A0Z Y Y Y Y (λw' hs=>(QQ (rA hs s) (by first|assumption|omega|(unfold ED at*;split at* <;>omega)))) λv24=>?_))))))));refine tS (λ_ hs=>hs.pk [1,2] Y Y) (ty 5 Y Y (YJ A0Z Y Y Y Y (λw' hs=>(QQ (rA hs f) (by first|assumption|omega|(unfold ED at*;split at* <;>omega)))) λv25=>?_));refine tZ Y (tW 6 Y Y Y (tW 7 Y Y Y (tE (Xt (Dh ([ov [v25] (AP b.Times:(List Int)),ov [v24] (AP a.Times:(List Int)),_,_]) Y (Cq (Sr (Pe Y (Cb (Cl (λm_ ac w'=>∃(k:Nat),(k<=(AP a.Times).length)/\(k<=(AP b.Times).length)/\(∀i,i<k->(AP a.Times)[i]?=(AP b.Times)[i]?)/\m_=(AP a.Times).length-k/\Fits ac 91 [(2,(pv g21)),(3,(pv g22)),(5,v24),(6,v25),(7,(nv k))]/\St w ([ov [v25] (AP b.Times:(List Int)),ov [v24] (AP a.Times:(List Int)),bx g22 [(.string b.Match.Rule),t,u,(iv b.Priority),v,(iv b.Specific),(iv b.Order)],bx g21 [(.string a.Match.Rule),u1,u3,(iv a.Priority),u5,(iv a.Specific),(iv a.Order)]]) w') ?_ ?_))))))))))
  ·refine λac w' hf hs=>⟨_,0,?_,?_,?_,Y,hf.wk Y,hs⟩
   ·first|assumption|omega|simp
   ·first|assumption|omega|simp
   ·intro i hi;omega
  ·rintro m_ ac w' ⟨k,hka,hkb,hi,rfl,hf,hs⟩;refine D.use ?_ hf hs;clear hf hs ac w';refine Cq (Sr (P2 Y Y (q1 Y (B7 1 BS Y Y Y) (P2 Y Y (EY 28 Y Y (λz=>?_) (λz=>?_))))))
   ·refine P2 Y Y (q1 Y (B7 0 BS Y Y Y) (P2 Y Y (Dx (Cd Y (λa0=>?_) (λa0=>?_)))))
    ·refine Sk (Cq (Cb (Cq (A0 mixed [] (by kernel_rfl) (tK 7 [0,1] Y ?_)))));obtain⟨x0,c⟩:=sI (AP a.Times) k;refine Tk 2 Y Y (AJ (l:=(AP a.Times)) (j:=k) BS Y Y Y (λw' hs=>(rO (k:=1) hs Y)) Y (lS c)) (Tk 3 Y Y (lo (α:=Int) 1 CJ Y Y Y c) (tK 3 [4,5] Y ?_));obtain⟨y0,d⟩:=sI (AP b.Times) k;refine Tk 6 Y Y (AJ (l:=(AP b.Times)) (j:=k) BS Y Y Y (λw' hs=>(rO (k:=0) hs Y)) Y (lS d)) (Tk 7 Y Y (lo (α:=Int) 0 CJ Y Y Y d) (tR 8 Y Y (tE (Xt (AH [2,3,5,6,7,44] Y (Cn Y (λa1=>?_) (λa1=>?_)))))))
     ·refine Cq (A0 mixed [8,9] (by kernel_rfl) (tK 8 [0,1] Y (Tk 2 Y Y (AJ (l:=(AP b.Times)) (j:=k) BS Y Y Y (λw' hs=>(rO (k:=0) hs Y)) Y (lS d)) (Tk 3 Y Y (lo (α:=Int) 0 CJ Y Y Y d) (tK 4 [4,5] Y (Tk 6 Y Y (AJ (l:=(AP a.Times)) (j:=k) BS Y Y Y (λw' hs=>(rO (k:=1) hs Y)) Y (lS c)) (Tk 7 Y Y (lo (α:=Int) 1 CJ Y Y Y c) (ty 8 Y Y (cv LP Y Y Y Y (λw' hs=>BP) ?_)))))))));refine tZ Y (tW 9 Y Y Y (tE (Xt (Ct (Xq (Xr (Xr (Xq (Xr (Ri Y Y ?_))))))))));show((DN y0 x0):Int)=_;exact A2X (by omega) hi c d (by omega)
     ·refine Ck (Xb (Xt (Cr (p1 Y (ad (k+1) Y (Pe Y (λac w' hf hs=>⟨_,?_,k+1,?_,?_,?_,Y,hf.wk Y,hs⟩)))))))
      ·omega
      ·first|assumption|omega|simp
      ·first|assumption|omega|simp
      ·exact DF hi c d (by omega)
    ·refine Cx (Xx (Xx (Xe (Xt (Cq (Sr (p1 Y (q1 Y (B7 1 BS Y Y Y) (p1 Y (q1 Y (B7 0 BS Y Y Y) (Pe Y (AH [2,3,5,6,58] Y (Cn Y (λa2=>?_) (λa2=>?_))))))))))))))
     ·refine Sr (p1 Y (q1 Y (B7 0 BS Y Y Y) (p1 Y (q1 Y (B7 1 BS Y Y Y) (qv LP Y (λw' hs=>BP) (Pe Y (Ct (Xr (Ri Y Y ?_)))))))));show((DN (((AP b.Times).length:Nat):Int) (((AP a.Times).length:Nat):Int)):Int)=_;exact tL (by omega) (λi h1 h=>hi i (by omega)) (by omega)
     ·refine Sk (Cq (Sr (fl 3 HO CJ Y (fl 2 HO CJ Y (Pe Y (Cn Y (λa3=>?_) (λa3=>?_)))))))
      ·refine Sr (fl 2 HO CJ Y (fl 3 HO CJ Y (qv LP Y (λw' hs=>BP) (Pe Y (Ct (Xr (Ri Y Y ?_)))))));show((DN b.Specific a.Specific):Int)=_;exact A1C (by omega) (RS (λi h1 h=>hi i (by omega)) (by omega)) (by omega)
      ·refine Sk (Cq (Sr (fl 3 HP CJ Y (fl 2 HP CJ Y (Pe Y (Cn Y (λa4=>?_) (λa4=>?_)))))))
       ·refine Sr (fl 3 HP CJ Y (fl 2 HP CJ Y (qv LP Y (λw' hs=>BP) (Pe Y (Ct (Xr (Ri Y Y ?_)))))));show((DN a.Order b.Order):Int)=_;exact A1D (by omega) (RS (λi h1 h=>hi i (by omega)) (by omega)) (by omega) (by omega)
       ·refine Sk (Sr (q1 Y (Db F7 Y Y (q:=0) Y) (fl 3 HN HK Y (q1 Y (Db F7 Y Y (q:=0) Y) (fl 2 HN HK Y (qv A0a Y (λw' hs=>(II (rA hs g) (rA hs e) (Tb.ext r hs.bel))) (Pe Y (Ct (Ri Y Y ?_)))))))));show((WH a.Match.Facts b.Match.Facts):Int)=_;exact A1E (by omega) (RS (λi h1 h=>hi i (by omega)) (by omega)) (by omega) (by omega)
   ·refine n1 Y (n1 Y (n1 Y (n1 Y (Pe Y (G7 Y (Cx (Xx (Xx (Xe (Xt (Cq (Sr (p1 Y (q1 Y (B7 1 BS Y Y Y) (p1 Y (q1 Y (B7 0 BS Y Y Y) (Pe Y (AH [2,3,5,6,58] Y ?_))))))))))))))))));refine Cn Y (λa5=>?_) (λa5=>?_)
    ·refine Sr (p1 Y (q1 Y (B7 0 BS Y Y Y) (p1 Y (q1 Y (B7 1 BS Y Y Y) (qv LP Y (λw' hs=>BP) (Pe Y (Ct (Xr (Ri Y Y ?_)))))))));show((DN (((AP b.Times).length:Nat):Int) (((AP a.Times).length:Nat):Int)):Int)=_;exact tL (by omega) (λi h1 h=>hi i (by omega)) (by omega)
    ·refine Sk (Cq (Sr (fl 3 HO CJ Y (fl 2 HO CJ Y (Pe Y (Cn Y (λa6=>?_) (λa6=>?_)))))))
     ·refine Sr (fl 2 HO CJ Y (fl 3 HO CJ Y (qv LP Y (λw' hs=>BP) (Pe Y (Ct (Xr (Ri Y Y ?_)))))));show((DN b.Specific a.Specific):Int)=_;exact A1C (by omega) (RS (λi h1 h=>hi i (by omega)) (by omega)) (by omega)
     ·refine Sk (Cq (Sr (fl 3 HP CJ Y (fl 2 HP CJ Y (Pe Y (Cn Y (λa7=>?_) (λa7=>?_)))))))
      ·refine Sr (fl 3 HP CJ Y (fl 2 HP CJ Y (qv LP Y (λw' hs=>BP) (Pe Y (Ct (Xr (Ri Y Y ?_)))))));show((DN a.Order b.Order):Int)=_;exact A1D (by omega) (RS (λi h1 h=>hi i (by omega)) (by omega)) (by omega) (by omega)
      ·refine Sk (Sr (q1 Y (Db F7 Y Y (q:=0) Y) (fl 3 HN HK Y (q1 Y (Db F7 Y Y (q:=0) Y) (fl 2 HN HK Y (qv A0a Y (λw' hs=>(II (rA hs g) (rA hs e) (Tb.ext r hs.bel))) (Pe Y (Ct (Ri Y Y ?_)))))))));show((WH a.Match.Facts b.Match.Facts):Int)=_;exact A1E (by omega) (RS (λi h1 h=>hi i (by omega)) (by omega)) (by omega) (by omega)
theorem OL{w:World}{n:List Value}{a:Choice}{o:List Value}{b:Choice}(p:Gd.rd w n a)(r:Gd.rd w o b)(a8:a.Times.length<=12)(a9:b.Times.length<=12):Cy 195 [(.agg n.toArray),(.agg o.toArray)] w (Val w (iv (JC a b))):=by
 obtain⟨m,u3,u5,rfl,g,a2,s⟩:=BF p;have aa:=rM g;have ab:=rM a2;have ae:=rM s;have a3:=AQ p;obtain⟨c,t,u,rfl,e,v,f⟩:=BF r;have a4:=rM e;have a5:=rM v;have a6:=rM f;have a7:=AQ r;have hfl:([DN b.Priority a.Priority,HF (AP a.Times) (AP b.Times),DN b.Specific a.Specific,DN a.Order b.Order]:List Int).length=4:=rfl;refine enter 54 Tryz.func195 Y Y Y (Sr (bX Y λg21=>?_));refine bX Y λg22=>?_
 refine Pe Y (Dh ([bx g22 [(.string b.Match.Rule),c,t,(iv b.Priority),u,(iv b.Specific),(iv b.Order)],bx g21 [(.string a.Match.Rule),m,u3,(iv a.Priority),u5,(iv a.Specific),(iv a.Order)]]) Y (Cq (A0 mixed [21,22,23] (by kernel_rfl) (Tk 0 Y Y (Db J4 Y Y (q:=3) Y) (Tk 1 Y Y (lb 0 CJ Y Y Y Y) (Tk 2 Y Y (Db J4 Y Y (q:=3) Y) (Tk 3 Y Y (lb 1 CJ Y Y Y Y) (Tk 5 Y Y (Db IL Y Y (q:=4) Y) (Tk 6 Y Y (lb 1 H7 Y Y Y Y) (Tk 8 Y Y (Db IL Y Y (q:=4) Y) (Tk 9 Y Y (lb 0 H7 Y Y Y Y) (Tk 12 Y Y (Db HO Y Y (q:=5) Y) (Tk 13 Y Y (lb 0 CJ Y Y Y Y) (Tk 14 Y Y (Db HO Y Y (q:=5) Y) (Tk 15 Y Y (lb 1 CJ Y Y Y Y) (Tk 17 Y Y (Db HP Y Y (q:=6) Y) (Tk 18 Y Y (lb 1 CJ Y Y Y Y) (Tk 19 Y Y (Db HP Y Y (q:=6) Y) (Tk 20 Y Y (lb 0 CJ Y Y Y Y) (ty 4 Y Y (cv bF Y Y Y Y (λw' hs=>KO) ?_)))))))))))))))))))));refine tS (λ_ hs=>hs) (ty 7 Y Y (YJ A0b Y Y Y Y (λw' hs=>(QW (rA hs s) (by first|assumption|omega|(unfold ED at*;split at* <;>omega)))) λv23=>?_));refine tS (λ_ hs=>hs.pk [1,2] Y Y) (ty 10 Y Y (YJ A0b Y Y Y Y (λw' hs=>(QW (rA hs f) (by first|assumption|omega|(unfold ED at*;split at* <;>omega)))) λv24=>?_));refine tS (λ_ hs=>hs.pk [2,3] Y Y) (ty 11 Y Y (cv A4h Y Y Y Y (λw' hs=>(VF (rO (k:=1) hs Y) (rO (k:=0) hs Y))) ?_));refine tS (λ_ hs=>hs.pk [2,3] Y Y) (ty 16 Y Y (cv bF Y Y Y Y (λw' hs=>KO) ?_));refine tS (λ_ hs=>hs.pk [2,3] Y Y) (ty 21 Y Y (cv bF Y Y Y Y (λw' hs=>KO) ?_));refine tZ Y (ty 22 Y Y (oO (α:=Int) (xs:=[.tmp 11, .tmp 18, .tmp 23, .tmp 28]) (ys:=[(DN b.Priority a.Priority),(HF (AP a.Times) (AP b.Times)),(DN b.Specific a.Specific),(DN a.Order b.Order)]) BS vH Y Y Y Y (by decide) (by decide) Y Y λv25=>?_));refine tZ Y (tW 23 Y Y Y (tE (Xt (AH [2,3,5] Y (AG [0,3,4] Y (Dh ([ov [v25] ([(DN b.Priority a.Priority),(HF (AP a.Times) (AP b.Times)),(DN b.Specific a.Specific),(DN a.Order b.Order)]:(List Int)),_,_]) Y (Cq (Sr (Pe Y (Cb (Cl (λm_ ac w'=>∃(k:Nat),(k<=4)/\(∀i,i<k->∀y,(A5p a b)[i]?=some y->y=0)/\m_=4-k/\Fits ac 54 [(2,(pv g21)),(3,(pv g22)),(5,v25),(6,(nv k))]/\St w ([ov [v25] ([(DN b.Priority a.Priority),(HF (AP a.Times) (AP b.Times)),(DN b.Specific a.Specific),(DN a.Order b.Order)]:(List Int)),bx g22 [(.string b.Match.Rule),c,t,(iv b.Priority),u,(iv b.Specific),(iv b.Order)],bx g21 [(.string a.Match.Rule),m,u3,(iv a.Priority),u5,(iv a.Specific),(iv a.Order)]]) w') ?_ ?_)))))))))))
 ·refine λac w' hf hs=>⟨_,0,?_,?_,Y,hf.wk Y,hs⟩
  ·first|assumption|omega|simp
  ·intro i hi;omega
 ·rintro m_ ac w' ⟨k,hk,hi,rfl,hf,hs⟩;refine D.use ?_ hf hs;clear hf hs ac w';refine Cq (Sr (P2 Y Y (q1 Y (B7 0 BS Y Y Y) (Pe Y (Cd Y (λx=>?_) (λx=>?_))))))
  ·refine Sk (Cq (Cb (Sr (P2 Y Y ?_))));obtain⟨x0,d⟩:=sI ([(DN b.Priority a.Priority),(HF (AP a.Times) (AP b.Times)),(DN b.Specific a.Specific),(DN a.Order b.Order)]) k;refine q1 Y (AJ (l:=([(DN b.Priority a.Priority),(HF (AP a.Times) (AP b.Times)),(DN b.Specific a.Specific),(DN a.Order b.Order)])) (j:=k) BS Y Y Y (λw' hs=>(rO (k:=0) hs Y)) Y (lS d)) (q1 Y (lo (α:=Int) 0 CJ Y Y Y d) (Pe Y (Cn Y (λz=>?_) (λz=>?_))))
   ·refine Sr (P2 Y Y (q1 Y (AJ (l:=([(DN b.Priority a.Priority),(HF (AP a.Times) (AP b.Times)),(DN b.Specific a.Specific),(DN a.Order b.Order)])) (j:=k) BS Y Y Y (λw' hs=>(rO (k:=0) hs Y)) Y (lS d)) (q1 Y (lo (α:=Int) 0 CJ Y Y Y d) (Pe Y (Ct (Xq (Xr (Xr (Xq (Xr (Ri Y Y ?_)))))))))));show(x0:Int)=_;exact A2Y d hi (by omega)
   ·refine Ck (Xb (Xt (Cr (p1 Y (ad (k+1) Y (Pe Y (λac w' hf hs=>⟨_,?_,k+1,?_,?_,Y,hf.wk Y,hs⟩)))))))
    ·omega
    ·first|assumption|omega|simp
    ·refine AF hi ?_;intro y hy;obtain rfl:y=x0:=Option.some.inj (hy.symm.trans d);omega
  ·refine Cx (Xx (Xx (Xe (Xt (Sr (q1 Y (Db F7 Y Y (q:=0) Y) (fl 2 HN HK Y (q1 Y (FJ (vs:=[(0,m)]) (xs:=[(0,[m])]) (cs:=[m,(.slice none 0 0)]) TW Y ⟨Y,(AO (A2 g)),trivial⟩ Y Y) (q1 Y (Db F7 Y Y (q:=0) Y) (fl 1 HN HK Y (q1 Y (FJ (vs:=[(0,c)]) (xs:=[(0,[c])]) (cs:=[c,(.slice none 0 0)]) TW Y ⟨Y,(AO (A2 e)),trivial⟩ Y Y) ?_)))))))))));have a0:Gd.rd w [m,(.slice none 0 0)] (⟨a.Match.Facts,[]⟩:Token):=P1 (⟨a.Match.Facts,[]⟩:Token) g O4;have a1:Gd.rd w [c,(.slice none 0 0)] (⟨b.Match.Facts,[]⟩:Token):=P1 (⟨b.Match.Facts,[]⟩:Token) e O4;refine qv A4i Y (λw' hs=>(PR (rA hs a0) (rA hs a1))) (Pe Y (Ct (Ri Y Y ?_)));show((WH (⟨a.Match.Facts,[]⟩:Token).Facts (⟨b.Match.Facts,[]⟩:Token).Facts):Int)=_;exact A2Z (λi h=>hi i (by omega))
theorem PS(w:World)(i:Int)(j:Int)(b:Addr)(c:Value)(out:(List Choice))(d:LN w b [c])(a:Gd.rd w [c] out)(a4:0<=i)(a5:i<out.length)(a6:0<=j)(a7:j<out.length)(p:Tb w)(q:(A out i.toNat).Times.length<=12)(r:(A out j.toNat).Times.length<=12):Cy 170 [(iv i),(iv j),(.pointer (some b))] w (Val w (.bool (decide (JC (A out i.toNat) (A out j.toNat)<0)))):=by
 have a8:=rM a;refine enter 16 Tryz.func170 Y Y Y (Sr (Pe Y (Cq (A0 mixed [8,9,10] (by kernel_rfl) (Tk 0 Y Y (HI qJ Y Y d Y) (tR 1 Y Y ?_))))));obtain⟨xa,hxa⟩:=sI out (i.toNat);rw[kO hxa] at q;obtain⟨a9,at3,f⟩:=AC (n:=7) rfl a hxa;obtain⟨u5,u7,u9,rfl,s,t,g⟩:=BF f;have u:=rM s;have v:=rM t;have x:=rM g;have y:=AQ f;refine Tk 2 Y Y (AJ (l:=out) (j:=(i.toNat)) EV Y Y Y (λw' hs=>(rA hs a)) (Int.toNat_of_nonneg (by omega)).symm (lS hxa)) (Tk 3 Y Y (EX IM Y Y at3) (Tk 4 Y Y (HI qJ Y Y d Y) (tR 5 Y Y ?_)));obtain⟨ya,hya⟩:=sI out (j.toNat);rw[kO hya] at r;obtain⟨z,h,e⟩:=AC (n:=7) rfl a hya;obtain⟨aa,ab,ac,rfl,k,m,o⟩:=BF e;have a0:=rM k;have a1:=rM m;have a2:=rM o;have a3:=AQ e;refine Tk 6 Y Y (AJ (l:=out) (j:=(j.toNat)) EV Y Y Y (λw' hs=>(rA hs a)) (Int.toNat_of_nonneg (by omega)).symm (lS hya)) (Tk 7 Y Y (EX IM Y Y h) (ty 8 Y Y (cv A4j Y Y Y Y (λw' hs=>(OK (rA hs f) (rA hs e) (Tb.ext p hs.bel) (by first|assumption|omega|(unfold ED at*;split at* <;>omega)) (by first|assumption|omega|(unfold ED at*;split at* <;>omega)))) ?_)));refine tZ Y (tW 9 Y Y Y (tW 10 Y Y Y (tE (Xt (Ct (Rb Y Y ?_))))));show((decide (((JC xa ya):Int)<0)):Bool)=_;rw[kO hxa,kO hya]
theorem S2{w:World}{h:List Value}{c:Choice}(i:Gd.rd w h c)(u:DJ c.Match<=1048576)(ht:c.Times.length<=1048576):Cy 168 [(.agg h.toArray)] w (HH w (c:Choice)):=by
 obtain⟨p,s,m,rfl,n,o,j⟩:=BF i;have v:=rM n;have z:=rM o;have a0:=rM j;have l:=AQ i;refine enter 12 Tryz.func168 Y Y Y (Sr (bX Y λg11=>?_));refine aL PE Y λg12=>?_
 refine Dx (Dh ([bx g12 [(.string ⟨#[]⟩),(.slice none 0 0),(.slice none 0 0),(iv 0),(.slice none 0 0),(iv 0),(iv 0)],bx g11 [(.string c.Match.Rule),p,s,(iv c.Priority),m,(iv c.Specific),(iv c.Order)]]) Y (Sr (q1 Y (Db F7 Y Y (q:=0) Y) (q1 Y (H2 (es:=[(.string c.Match.Rule),p,s]) 1 TV Y Y Y Y) (qs Y A0Q Y (λw' hs=>(NU (rA hs l) u)) λt=>?_)))));refine Dp (λw' hs=>KT (rO (k:=0) hs Y)) ?_;rintro⟨a,b,rfl,f,g⟩;refine q1 Y (Db F7 Y Y (q:=0) Y) (li Y (AZ (vs:=[(.string c.Match.Rule),a,b]) (cs':=[(.string c.Match.Rule),a,b,(iv c.Priority),m,(iv c.Specific),(iv c.Order)]) 2 wF Y Y Y Y Y Y (AB Y (AB f (AB g BR))) (by simp) Y ?_));refine Dx (Dh ([ov [(.string c.Match.Rule),a,b] (c.Match:Match),_,bx g11 [(.string c.Match.Rule),a,b,(iv c.Priority),m,(iv c.Specific),(iv c.Order)]]) Y (Sr (fl 2 IL H7 Y (ql A4E Y (λw' hs=>(O0 (rA hs j) (by first|assumption|omega|(unfold ED at*;split at* <;>omega)))) λd=>?_))));refine q1 Y (Db IL Y Y (q:=4) Y) (Dp (λw' hs=>CZ (k:=0) hs Y) ?_);intro e;refine li Y (AZ (vs:=[d]) (cs':=[(.string c.Match.Rule),a,b,(iv c.Priority),d,(iv c.Specific),(iv c.Order)]) 3 A3U Y Y Y Y Y (AO e) (AB e BR) (by simp) Y ?_);refine Dx (Dh ([ov [d] (c.Times:(List Int)),_,_,bx g11 [(.string c.Match.Rule),a,b,(iv c.Priority),d,(iv c.Specific),(iv c.Order)]]) Y (Sr (q1 Y (C9 3 IM Y Y Y) (li Y (AZ (vs:=[(.string c.Match.Rule),a,b,(iv c.Priority),d,(iv c.Specific),(iv c.Order)]) (cs':=[(.string c.Match.Rule),a,b,(iv c.Priority),d,(iv c.Specific),(iv c.Order)]) 2 OJ Y Y Y Y Y Y (AB Y (AB f (AB g (AB Y (AB e (AB Y (AB Y BR))))))) (by simp) Y ?_)))));refine Dx (Ct (AG [1,0,2,3] Y (BB (α:=ByteArray) (β:=(List Fact)×(List Pair)) (c1:=[(.string c.Match.Rule)]) (c2:=[a,b]) (x:=c.Match.Rule) (y:=(c.Match.Facts,c.Match.Binding)) Y Y (BZ [] 1 Y (BB (α:=(List Fact)) (β:=(List Pair)) (c1:=[a]) (c2:=[b]) (x:=c.Match.Facts) (y:=(c.Match.Binding)) Y Y (BZ [1] 0 Y (AG [1,0,2,3,4] Y (FO (r:=(c:Choice)) (eW 1 IM Y Y Y λw' hs=>A7 (k:=0) hs Y ?_)))))))));show(c:Choice)=c
 cases c;rfl
theorem N2{w:World}{f:List Value}{c:Choice}(g:Gd.rd w f c)(t:DJ c.Match<=1048576)(ht:c.Times.length<=1048576):Cy 194 [(.agg f.toArray)] w (HH w (c:Choice)):=by
 obtain⟨o,p,u,rfl,m,n,h⟩:=BF g;have v:=rM m;have z:=rM n;have a0:=rM h;have i:=AQ g;refine enter 16 Tryz.func194 Y Y Y (Sr (bX Y λg11=>?_));refine aL PE Y λg12=>?_
 refine Dx (Dh ([bx g12 [(.string ⟨#[]⟩),(.slice none 0 0),(.slice none 0 0),(iv 0),(.slice none 0 0),(iv 0),(iv 0)],bx g11 [(.string c.Match.Rule),o,p,(iv c.Priority),u,(iv c.Specific),(iv c.Order)]]) Y (Cq (A0 mixed [13] (by kernel_rfl) (Tk 0 Y Y (Db F7 Y Y (q:=0) Y) (Tk 1 Y Y (H2 (es:=[(.string c.Match.Rule),o,p]) 1 TV Y Y Y Y) (Tk 3 Y Y (Db J4 Y Y (q:=3) Y) (Tk 4 Y Y (lb 1 CJ Y Y Y Y) (Tk 5 Y Y (Db IL Y Y (q:=4) Y) (Tk 6 Y Y (lb 1 H7 Y Y Y Y) (Tk 8 Y Y (Db HO Y Y (q:=5) Y) (Tk 9 Y Y (lb 1 CJ Y Y Y Y) (Tk 10 Y Y (Db HP Y Y (q:=6) Y) (Tk 11 Y Y (lb 1 CJ Y Y Y Y) (ty 2 Y Y (zE Y A0R Y Y Y Y (λw' hs=>(QR (rA hs i) t)) λs=>?_)))))))))))))));refine Dp (λw' hs=>KT (rO (k:=0) hs Y)) ?_;rintro⟨a,b,rfl,j,l⟩;refine tS (λ_ hs=>hs.pk [1,2] Y Y) (ty 7 Y Y (YJ A6z Y Y Y Y (λw' hs=>(dS (rA hs h) (by first|assumption|omega|(unfold ED at*;split at* <;>omega)))) λd=>?_));refine tS (λ_ hs=>hs.pk [2,3] Y Y) (Dp (λw' hs=>CZ (k:=0) hs Y) ?_);intro e;refine Tj 12 Y Y (λ_ hs=>hs.pk [2,3] Y Y) (FJ (vs:=[(0,(.agg #[(.string c.Match.Rule),a,b])),(1,(iv c.Priority)),(2,d),(3,(iv c.Specific)),(4,(iv c.Order))]) (xs:=[(0,[(.string c.Match.Rule),a,b]),(1,[(iv c.Priority)]),(2,[d]),(3,[(iv c.Specific)]),(4,[(iv c.Order)])]) (cs:=[(.string c.Match.Rule),a,b,(iv c.Priority),d,(iv c.Specific),(iv c.Order)]) jB Y ⟨Y,Y,⟨Y,Y,⟨Y,(AO e),⟨Y,Y,⟨Y,Y,trivial⟩⟩⟩⟩⟩ Y Y) (ty 13 Y Y (AZ (vs:=[(.string c.Match.Rule),a,b,(iv c.Priority),d,(iv c.Specific),(iv c.Order)]) (cs':=[(.string c.Match.Rule),a,b,(iv c.Priority),d,(iv c.Specific),(iv c.Order)]) 2 OJ Y Y Y Y Y Y (AB Y (AB j (AB l (AB Y (AB e (AB Y (AB Y BR))))))) (by simp) Y ?_));refine tZ Y (tE (Xt (Ct (AG [1,0,2,3] Y (BB (α:=ByteArray) (β:=(List Fact)×(List Pair)) (c1:=[(.string c.Match.Rule)]) (c2:=[a,b]) (x:=c.Match.Rule) (y:=(c.Match.Facts,c.Match.Binding)) Y Y (BZ [] 1 Y (BB (α:=(List Fact)) (β:=(List Pair)) (c1:=[a]) (c2:=[b]) (x:=c.Match.Facts) (y:=(c.Match.Binding)) Y Y (BZ [1] 0 Y (AG [1,0,2,3,4] Y (FO (r:=(c:Choice)) (eW 1 IM Y Y Y λw' hs=>A7 (k:=0) hs Y ?_)))))))))));show(c:Choice)=c
 cases c;rfl
end Go.Sy.Cmp1
