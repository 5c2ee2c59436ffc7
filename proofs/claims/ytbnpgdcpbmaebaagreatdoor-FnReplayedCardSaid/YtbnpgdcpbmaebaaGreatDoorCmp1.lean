/-
  Contracts of functions of the program, walked (printed by a program of ours).
  Conditions: those that each theorem states.
-/
import Derived.Test.YtbnpgdcpbmaebaaGreatDoorFct
import Derived.Test.YtbnpgdcpbmaebaaGreatDoorNum3
import Derived.Test.YtbnpgdcpbmaebaaGreatDoorCho2
import Derived.Test.YtbnpgdcpbmaebaaGreatDoorFal2
import Derived.Test.YtbnpgdcpbmaebaaGreatDoorChs
import Derived.Test.YtbnpgdcpbmaebaaGreatDoorOwn2
set_option linter.unusedVariables false
set_option maxRecDepth 20000
namespace Go.Sy.Cmp1
open Go Go.RowKit Go.Proofs Go.Sy
open Go.Sy.Bel1 Go.Sy.Ev1 Go.Sy.Ev3 Go.Sy.Fmt1 Go.Sy.Eng1 Go.Sy.Eng2 Go.Sy.Eng3 Go.Sy.Eng4 Go.Sy.Num1 Go.Sy.Num2 Go.Sy.Fal2 Go.Sy.Cho2 Go.Sy.Pdqs Go.Sy.Fal1
theorem II{w:World}{h:Value}{a:(List Fact)}{m:Value}{b:(List Fact)}(c:Gd.rd w [h] a)(d:Gd.rd w [m] b)(t:Tb w):Cy 96 [h,m] w (Val w (iv (WH a b))):=by
 have a5:=rM c;have a6:=rM d;refine enter 36 Tryz.func96 Y Y Y (Sr (Pe Y (Cq (Sr (Pe Y (Cb (Cl (λm_ ac w'=>∃(k:Nat),(k<=a.length)/\(k<=b.length)/\(∀i,i<k->∀u v,a[i]?=some u->b[i]?=some v->HS u v=0)/\m_=a.length-k/\Fits ac 36 [(0,h),(1,m),(5,(nv k))]/\St w ([]) w') ?_ ?_)))))))
 ·refine λac w' hf hs=>⟨_,0,?_,?_,?_,Y,hf.wk Y,hs⟩
  ·omega
  ·omega
  ·intro i hi;omega
 ·rintro m_ ac w' ⟨k,hka,hkb,hi,rfl,hf,hs⟩;refine D.use ?_ hf hs;clear hf hs ac w';refine Cq (Sr (P2 Y Y (dl C1O Y (AE c) (P2 Y Y (EY 11 Y Y (λz=>?_) (λz=>?_))))))
  ·refine P2 Y Y (dl C1O Y (AE d) (P2 Y Y (Dx (Cd Y (λa0=>?_) (λa0=>?_)))))
   ·refine Sk (Cq (Cb (Cq (A0 mixed [8,9] (by kernel_rfl) (tK 8 [0,1] Y ?_)))));obtain⟨x0,e⟩:=sI a k;obtain⟨a7,a1,o⟩:=AC (n:=2) rfl c e;obtain⟨u9,rfl,p⟩:=AS o;have a2:=rM p;refine Tk 2 Y Y (AJ (l:=a) (j:=k) C1O Y Y Y (λw' hs=>(rA hs c)) Y (lS e)) (Tk 3 Y Y (EX B4Z Y Y a1) (tK 4 [4,5] Y ?_));obtain⟨y0,f⟩:=sI b k;obtain⟨a3,q,g⟩:=AC (n:=2) rfl d f;obtain⟨a8,rfl,r⟩:=AS g;have a4:=rM r;refine Tk 6 Y Y (AJ (l:=b) (j:=k) C1O Y Y Y (λw' hs=>(rA hs d)) Y (lS f)) (Tk 7 Y Y (EX B4Z Y Y q) (ty 8 Y Y (cv A4x Y Y Y Y (λw' hs=>(K2 (rA hs o) (rA hs g) (Tb.ext t hs.bel))) ?_)));refine tZ Y (tW 9 Y Y Y (tE (Xt (AH [0,1,5,6] Y (Sr (P2 Y Y (Dx (Cn Y (λs=>?_) (λs=>?_)))))))))
    ·refine Sr (P2 Y Y (Dx (Ct (Xq (Xr (Xr (Xq (Xr (Ri Y Y ?_)))))))));show((HS x0 y0):Int)=_;exact kN hi e f (by omega)
    ·refine Ck (Xb (Xt (Cr (p1 Y (ad (k+1) Y (Pe Y (λac w' hf hs=>⟨_,?_,k+1,?_,?_,?_,Y,hf.wk Y,hs⟩)))))))
     ·omega
     ·omega
     ·omega
     ·refine AF hi ?_;intro x y hx hy;obtain rfl:x=x0:=Option.some.inj (hx.symm.trans e);obtain rfl:y=y0:=Option.some.inj (hy.symm.trans f);omega
   ·refine Cx (Xx (Xx (Xe (Xt (Sr (p1 Y (dl C1O Y (AE c) (p1 Y (dl C1O Y (AE d) (qv B3w Y (λw' hs=>BP) (Pe Y (Ct (Ri Y Y ?_)))))))))))));show((DN ((a.length:Nat):Int) ((b.length:Nat):Int)):Int)=_;exact JB (λi h1 h2=>hi i (by omega))
  ·refine n1 Y (n1 Y (n1 Y (n1 Y (Pe Y (G7 Y (Cx (Xx (Xx (Xe (Xt (Sr (p1 Y (dl C1O Y (AE c) (p1 Y (dl C1O Y (AE d) (qv B3w Y (λw' hs=>BP) (Pe Y (Ct ?_))))))))))))))))));refine Ri Y Y ?_;show((DN ((a.length:Nat):Int) ((b.length:Nat):Int)):Int)=_;exact JB (λi h1 h2=>hi i (by omega))
set_option maxHeartbeats 4000000 in
theorem OK{w:World}{m:List Value}{a:Choice}{n:List Value}{b:Choice}(o:Gd.rd w m a)(p:Gd.rd w n b)(r:Tb w)(ag:a.Times.length<=12)(ah:b.Times.length<=12):Cy 35 [(.agg m.toArray),(.agg n.toArray)] w (Val w (iv (JC a b))):=by
 obtain⟨u1,u3,u5,rfl,g,a8,s⟩:=BF o;have ai:=rM g;have aj:=rM a8;have ak:=rM s;have a9:=AQ o;obtain⟨t,u,v,rfl,e,x,f⟩:=BF p;have aa:=rM e;have ab:=rM x;have ae:=rM f;have af:=AQ p;have hfa:=QP a.Times;have hfb:=QP b.Times;refine enter 91 Tryz.func35 Y Y Y (Sr (bX Y λg21=>?_));refine bX Y λg22=>?_
 refine Pe Y (Dh ([bx g22 [(.string b.Match.Rule),t,u,(iv b.Priority),v,(iv b.Specific),(iv b.Order)],bx g21 [(.string a.Match.Rule),u1,u3,(iv a.Priority),u5,(iv a.Specific),(iv a.Order)]]) Y (Cq (Sr (fl 1 BU CJ Y (fl 0 BU CJ Y (Pe Y (Cn Y (λy=>?_) (λy=>?_))))))))
 ·refine Sr (fl 0 BU CJ Y (fl 1 BU CJ Y (qv B3w Y (λw' hs=>BP) (Pe Y (Ct (Xr (Ri Y Y ?_)))))));show((DN b.Priority a.Priority):Int)=_;exact A5o (by omega)
 ·refine Sk (Cq (A0 mixed [5,6,7] (by kernel_rfl) (Tk 0 Y Y (Db C2H Y Y (q:=4) Y) (Tk 1 Y Y (lb 1 B5 Y Y Y Y) (Tk 3 Y Y (Db C2H Y Y (q:=4) Y) (Tk 4 Y Y (lb 0 B5 Y Y Y Y) (ty 2 Y Y (YJ A6v Y Y Y Y (λw' hs=>(QQ (rA hs s) (by first|assumption|omega|(unfold ED at*;split at* <;>omega)))) λv24=>?_))))))));refine tS (λ_ hs=>hs.pk [1,2] Y Y) (ty 5 Y Y (YJ A6v Y Y Y Y (λw' hs=>(QQ (rA hs f) (by first|assumption|omega|(unfold ED at*;split at* <;>omega)))) λv25=>?_));refine tZ Y (tW 6 Y Y Y (tW 7 Y Y Y (tE (Xt (Dh ([ov [v25] (AP b.Times:(List Int)),ov [v24] (AP a.Times:(List Int)),_,_]) Y (Cq (Sr (Pe Y (Cb (Cl (λm_ ac w'=>∃(k:Nat),(k<=(AP a.Times).length)/\(k<=(AP b.Times).length)/\(∀i,i<k->(AP a.Times)[i]?=(AP b.Times)[i]?)/\m_=(AP a.Times).length-k/\Fits ac 91 [(2,(pv g21)),(3,(pv g22)),(5,v24),(6,v25),(7,(nv k))]/\St w ([ov [v25] (AP b.Times:(List Int)),ov [v24] (AP a.Times:(List Int)),bx g22 [(.string b.Match.Rule),t,u,(iv b.Priority),v,(iv b.Specific),(iv b.Order)],bx g21 [(.string a.Match.Rule),u1,u3,(iv a.Priority),u5,(iv a.Specific),(iv a.Order)]]) w') ?_ ?_))))))))))
  ·refine λac w' hf hs=>⟨_,0,?_,?_,?_,Y,hf.wk Y,hs⟩
   ·first|assumption|omega|simp
   ·first|assumption|omega|simp
   ·intro i hi;omega
  ·rintro m_ ac w' ⟨k,hka,hkb,hi,rfl,hf,hs⟩;refine D.use ?_ hf hs;clear hf hs ac w';refine Cq (Sr (P2 Y Y (q1 Y (B7 1 AU Y Y Y) (P2 Y Y (EY 28 Y Y (λz=>?_) (λz=>?_))))))
   ·refine P2 Y Y (q1 Y (B7 0 AU Y Y Y) (P2 Y Y (Dx (Cd Y (λa0=>?_) (λa0=>?_)))))
    ·refine Sk (Cq (Cb (Cq (A0 mixed [] (by kernel_rfl) (tK 7 [0,1] Y ?_)))));obtain⟨x0,c⟩:=sI (AP a.Times) k;refine Tk 2 Y Y (AJ (l:=(AP a.Times)) (j:=k) AU Y Y Y (λw' hs=>(rO (k:=1) hs Y)) Y (lS c)) (Tk 3 Y Y (lo (α:=Int) 1 CJ Y Y Y c) (tK 3 [4,5] Y ?_));obtain⟨y0,d⟩:=sI (AP b.Times) k;refine Tk 6 Y Y (AJ (l:=(AP b.Times)) (j:=k) AU Y Y Y (λw' hs=>(rO (k:=0) hs Y)) Y (lS d)) (Tk 7 Y Y (lo (α:=Int) 0 CJ Y Y Y d) (tR 8 Y Y (tE (Xt (AH [2,3,5,6,7,44] Y (Cn Y (λa1=>?_) (λa1=>?_)))))))
     ·refine Cq (A0 mixed [8,9] (by kernel_rfl) (tK 8 [0,1] Y (Tk 2 Y Y (AJ (l:=(AP b.Times)) (j:=k) AU Y Y Y (λw' hs=>(rO (k:=0) hs Y)) Y (lS d)) (Tk 3 Y Y (lo (α:=Int) 0 CJ Y Y Y d) (tK 4 [4,5] Y (Tk 6 Y Y (AJ (l:=(AP a.Times)) (j:=k) AU Y Y Y (λw' hs=>(rO (k:=1) hs Y)) Y (lS c)) (Tk 7 Y Y (lo (α:=Int) 1 CJ Y Y Y c) (ty 8 Y Y (cv B3w Y Y Y Y (λw' hs=>BP) ?_)))))))));refine tZ Y (tW 9 Y Y Y (tE (Xt (Ct (Xq (Xr (Xr (Xq (Xr (Ri Y Y ?_))))))))));show((DN y0 x0):Int)=_;exact A2X (by omega) hi c d (by omega)
     ·refine Ck (Xb (Xt (Cr (p1 Y (ad (k+1) Y (Pe Y (λac w' hf hs=>⟨_,?_,k+1,?_,?_,?_,Y,hf.wk Y,hs⟩)))))))
      ·omega
      ·first|assumption|omega|simp
      ·first|assumption|omega|simp
      ·exact DF hi c d (by omega)
    ·refine Cx (Xx (Xx (Xe (Xt (Cq (Sr (p1 Y (q1 Y (B7 1 AU Y Y Y) (p1 Y (q1 Y (B7 0 AU Y Y Y) (Pe Y (AH [2,3,5,6,58] Y (Cn Y (λa2=>?_) (λa2=>?_))))))))))))))
     ·refine Sr (p1 Y (q1 Y (B7 0 AU Y Y Y) (p1 Y (q1 Y (B7 1 AU Y Y Y) (qv B3w Y (λw' hs=>BP) (Pe Y (Ct (Xr (Ri Y Y ?_)))))))));show((DN (((AP b.Times).length:Nat):Int) (((AP a.Times).length:Nat):Int)):Int)=_;exact tL (by omega) (λi h1 h=>hi i (by omega)) (by omega)
     ·refine Sk (Cq (Sr (fl 3 C2F CJ Y (fl 2 C2F CJ Y (Pe Y (Cn Y (λa3=>?_) (λa3=>?_)))))))
      ·refine Sr (fl 2 C2F CJ Y (fl 3 C2F CJ Y (qv B3w Y (λw' hs=>BP) (Pe Y (Ct (Xr (Ri Y Y ?_)))))));show((DN b.Specific a.Specific):Int)=_;exact A1C (by omega) (RS (λi h1 h=>hi i (by omega)) (by omega)) (by omega)
      ·refine Sk (Cq (Sr (fl 3 C2D CJ Y (fl 2 C2D CJ Y (Pe Y (Cn Y (λa4=>?_) (λa4=>?_)))))))
       ·refine Sr (fl 3 C2D CJ Y (fl 2 C2D CJ Y (qv B3w Y (λw' hs=>BP) (Pe Y (Ct (Xr (Ri Y Y ?_)))))));show((DN a.Order b.Order):Int)=_;exact A1D (by omega) (RS (λi h1 h=>hi i (by omega)) (by omega)) (by omega) (by omega)
       ·refine Sk (Sr (q1 Y (Db EH Y Y (q:=0) Y) (fl 3 B7j B7Y Y (q1 Y (Db EH Y Y (q:=0) Y) (fl 2 B7j B7Y Y (qv B3Y Y (λw' hs=>(II (rA hs g) (rA hs e) (Tb.ext r hs.bel))) (Pe Y (Ct (Ri Y Y ?_)))))))));show((WH a.Match.Facts b.Match.Facts):Int)=_;exact A1E (by omega) (RS (λi h1 h=>hi i (by omega)) (by omega)) (by omega) (by omega)
   ·refine n1 Y (n1 Y (n1 Y (n1 Y (Pe Y (G7 Y (Cx (Xx (Xx (Xe (Xt (Cq (Sr (p1 Y (q1 Y (B7 1 AU Y Y Y) (p1 Y (q1 Y (B7 0 AU Y Y Y) (Pe Y (AH [2,3,5,6,58] Y ?_))))))))))))))))));refine Cn Y (λa5=>?_) (λa5=>?_)
    ·refine Sr (p1 Y (q1 Y (B7 0 AU Y Y Y) (p1 Y (q1 Y (B7 1 AU Y Y Y) (qv B3w Y (λw' hs=>BP) (Pe Y (Ct (Xr (Ri Y Y ?_)))))))));show((DN (((AP b.Times).length:Nat):Int) (((AP a.Times).length:Nat):Int)):Int)=_;exact tL (by omega) (λi h1 h=>hi i (by omega)) (by omega)
    ·refine Sk (Cq (Sr (fl 3 C2F CJ Y (fl 2 C2F CJ Y (Pe Y (Cn Y (λa6=>?_) (λa6=>?_)))))))
     ·refine Sr (fl 2 C2F CJ Y (fl 3 C2F CJ Y (qv B3w Y (λw' hs=>BP) (Pe Y (Ct (Xr (Ri Y Y ?_)))))));show((DN b.Specific a.Specific):Int)=_;exact A1C (by omega) (RS (λi h1 h=>hi i (by omega)) (by omega)) (by omega)
     ·refine Sk (Cq (Sr (fl 3 C2D CJ Y (fl 2 C2D CJ Y (Pe Y (Cn Y (λa7=>?_) (λa7=>?_)))))))
      ·refine Sr (fl 3 C2D CJ Y (fl 2 C2D CJ Y (qv B3w Y (λw' hs=>BP) (Pe Y (Ct (Xr (Ri Y Y ?_)))))));show((DN a.Order b.Order):Int)=_;exact A1D (by omega) (RS (λi h1 h=>hi i (by omega)) (by omega)) (by omega) (by omega)
      ·refine Sk (Sr (q1 Y (Db EH Y Y (q:=0) Y) (fl 3 B7j B7Y Y (q1 Y (Db EH Y Y (q:=0) Y) (fl 2 B7j B7Y Y (qv B3Y Y (λw' hs=>(II (rA hs g) (rA hs e) (Tb.ext r hs.bel))) (Pe Y (Ct (Ri Y Y ?_)))))))));show((WH a.Match.Facts b.Match.Facts):Int)=_;exact A1E (by omega) (RS (λi h1 h=>hi i (by omega)) (by omega)) (by omega) (by omega)
theorem PS(w:World)(i:Int)(j:Int)(b:Addr)(c:Value)(out:(List Choice))(d:LN w b [c])(a:Gd.rd w [c] out)(a4:0<=i)(a5:i<out.length)(a6:0<=j)(a7:j<out.length)(p:Tb w)(q:(A out i.toNat).Times.length<=12)(r:(A out j.toNat).Times.length<=12):Cy 99 [(iv i),(iv j),(.pointer (some b))] w (Val w (.bool (decide (JC (A out i.toNat) (A out j.toNat)<0)))):=by
 have a8:=rM a;refine enter 16 Tryz.func99 Y Y Y (Sr (Pe Y (Cq (A0 mixed [8,9,10] (by kernel_rfl) (Tk 0 Y Y (HI H7 Y Y d Y) (tR 1 Y Y ?_))))));obtain⟨xa,hxa⟩:=sI out (i.toNat);rw[kO hxa] at q;obtain⟨a9,at3,f⟩:=AC (n:=7) rfl a hxa;obtain⟨u5,u7,u9,rfl,s,t,g⟩:=BF f;have u:=rM s;have v:=rM t;have x:=rM g;have y:=AQ f;refine Tk 2 Y Y (AJ (l:=out) (j:=(i.toNat)) BS Y Y Y (λw' hs=>(rA hs a)) (Int.toNat_of_nonneg (by omega)).symm (lS hxa)) (Tk 3 Y Y (EX C3 Y Y at3) (Tk 4 Y Y (HI H7 Y Y d Y) (tR 5 Y Y ?_)));obtain⟨ya,hya⟩:=sI out (j.toNat);rw[kO hya] at r;obtain⟨z,h,e⟩:=AC (n:=7) rfl a hya;obtain⟨aa,ab,ac,rfl,k,m,o⟩:=BF e;have a0:=rM k;have a1:=rM m;have a2:=rM o;have a3:=AQ e;refine Tk 6 Y Y (AJ (l:=out) (j:=(j.toNat)) BS Y Y Y (λw' hs=>(rA hs a)) (Int.toNat_of_nonneg (by omega)).symm (lS hya)) (Tk 7 Y Y (EX C3 Y Y h) (ty 8 Y Y (cv A6Z Y Y Y Y (λw' hs=>(OK (rA hs f) (rA hs e) (Tb.ext p hs.bel) (by first|assumption|omega|(unfold ED at*;split at* <;>omega)) (by first|assumption|omega|(unfold ED at*;split at* <;>omega)))) ?_)));refine tZ Y (tW 9 Y Y Y (tW 10 Y Y Y (tE (Xt (Ct (Rb Y Y ?_))))));show((decide (((JC xa ya):Int)<0)):Bool)=_;rw[kO hxa,kO hya]
theorem S2{w:World}{h:List Value}{c:Choice}(i:Gd.rd w h c)(u:DJ c.Match<=1048576)(ht:c.Times.length<=1048576):Cy 97 [(.agg h.toArray)] w (HH w (c:Choice)):=by
 obtain⟨p,s,m,rfl,n,o,j⟩:=BF i;have v:=rM n;have z:=rM o;have a0:=rM j;have l:=AQ i;refine enter 12 Tryz.func97 Y Y Y (Sr (bX Y λg11=>?_));refine aL I6 Y λg12=>?_
 refine Dx (Dh ([bx g12 [(.string ⟨#[]⟩),(.slice none 0 0),(.slice none 0 0),(iv 0),(.slice none 0 0),(iv 0),(iv 0)],bx g11 [(.string c.Match.Rule),p,s,(iv c.Priority),m,(iv c.Specific),(iv c.Order)]]) Y (Sr (q1 Y (Db EH Y Y (q:=0) Y) (q1 Y (H2 (es:=[(.string c.Match.Rule),p,s]) 1 C2y Y Y Y Y) (qs Y B3U Y (λw' hs=>(NU (rA hs l) u)) λt=>?_)))));refine Dp (λw' hs=>KT (rO (k:=0) hs Y)) ?_;rintro⟨a,b,rfl,f,g⟩;refine q1 Y (Db EH Y Y (q:=0) Y) (li Y (AZ (vs:=[(.string c.Match.Rule),a,b]) (cs':=[(.string c.Match.Rule),a,b,(iv c.Priority),m,(iv c.Specific),(iv c.Order)]) 2 C3g Y Y Y Y Y Y (AB Y (AB f (AB g BR))) (by simp) Y ?_));refine Dx (Dh ([ov [(.string c.Match.Rule),a,b] (c.Match:Match),_,bx g11 [(.string c.Match.Rule),a,b,(iv c.Priority),m,(iv c.Specific),(iv c.Order)]]) Y (Sr (fl 2 C2H B5 Y (ql A6O Y (λw' hs=>(O0 (rA hs j) (by first|assumption|omega|(unfold ED at*;split at* <;>omega)))) λd=>?_))));refine q1 Y (Db C2H Y Y (q:=4) Y) (Dp (λw' hs=>CZ (k:=0) hs Y) ?_);intro e;refine li Y (AZ (vs:=[d]) (cs':=[(.string c.Match.Rule),a,b,(iv c.Priority),d,(iv c.Specific),(iv c.Order)]) 3 A3D Y Y Y Y Y (AO e) (AB e BR) (by simp) Y ?_);refine Dx (Dh ([ov [d] (c.Times:(List Int)),_,_,bx g11 [(.string c.Match.Rule),a,b,(iv c.Priority),d,(iv c.Specific),(iv c.Order)]]) Y (Sr (q1 Y (C9 3 C3 Y Y Y) (li Y (AZ (vs:=[(.string c.Match.Rule),a,b,(iv c.Priority),d,(iv c.Specific),(iv c.Order)]) (cs':=[(.string c.Match.Rule),a,b,(iv c.Priority),d,(iv c.Specific),(iv c.Order)]) 2 TP Y Y Y Y Y Y (AB Y (AB f (AB g (AB Y (AB e (AB Y (AB Y BR))))))) (by simp) Y ?_)))));refine Dx (Ct (AG [1,0,2,3] Y (BB (α:=ByteArray) (β:=(List Fact)×(List Pair)) (c1:=[(.string c.Match.Rule)]) (c2:=[a,b]) (x:=c.Match.Rule) (y:=(c.Match.Facts,c.Match.Binding)) Y Y (BZ [] 1 Y (BB (α:=(List Fact)) (β:=(List Pair)) (c1:=[a]) (c2:=[b]) (x:=c.Match.Facts) (y:=(c.Match.Binding)) Y Y (BZ [1] 0 Y (AG [1,0,2,3,4] Y (FO (r:=(c:Choice)) (eW 1 C3 Y Y Y λw' hs=>A7 (k:=0) hs Y ?_)))))))));show(c:Choice)=c
 cases c;rfl
end Go.Sy.Cmp1
