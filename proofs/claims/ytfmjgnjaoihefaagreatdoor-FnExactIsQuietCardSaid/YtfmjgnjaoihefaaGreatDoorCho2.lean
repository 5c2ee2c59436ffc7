/-
  Contracts of functions of the program, walked (printed by a program of ours).
  Conditions: those that each theorem states.
-/
import Derived.Test.YtfmjgnjaoihefaaGreatDoorFct
import Derived.Test.YtfmjgnjaoihefaaGreatDoorEng3
import Derived.Test.YtfmjgnjaoihefaaGreatDoorBel1
import Derived.Test.YtfmjgnjaoihefaaGreatDoorRul
import Derived.Test.YtfmjgnjaoihefaaGreatDoorEv3
import Derived.Test.YtfmjgnjaoihefaaGreatDoorNum2
import Derived.Test.YtfmjgnjaoihefaaGreatDoorCho
import Derived.Test.YtfmjgnjaoihefaaGreatDoorFal2
set_option linter.unusedVariables false
set_option maxRecDepth 20000
namespace Go.Sy.Cho2
open Go Go.RowKit Go.Proofs Go.Sy
open Go.Sy.Bel1 Go.Sy.Ev1 Go.Sy.Ev2 Go.Sy.Ev3 Go.Sy.Fmt1 Go.Sy.Eng1 Go.Sy.Eng2 Go.Sy.Eng3 Go.Sy.Num1 Go.Sy.Num2 Go.Sy.Fal2
theorem gT{w:World}{c:Value}{l:(List Int)}{x:Int}(a:Gd.rd w [c] l):Cy 191 [c,(iv x)] w (Val w (.bool (l.contains x))):=by
 have p:=rM a;refine enter 18 Tryz.func191 Y Y Y (Sr (Pe Y (Cq (Sr (Pe Y (Cb (Cl (λm_ ac w'=>∃(k:Nat),(k<=l.length)/\(∀i,i<k->l[i]?≠some x)/\m_=l.length-k/\Fits ac 18 [(0,c),(1,(iv x)),(5,(nv k))]/\St w ([]) w') ?_ ?_)))))))
 ·refine λac w' hf hs=>⟨_,0,?_,?_,Y,hf.wk Y,hs⟩
  ·omega
  ·intro i hi;omega
 ·rintro m_ ac w' ⟨k,hk,hi,rfl,hf,hs⟩;refine D.use ?_ hf hs;clear hf hs ac w';refine Cq (Sr (P2 Y Y (dl BS Y (AE a) (Pe Y (Cd Y (λd=>?_) (λd=>?_))))))
  ·refine Sk (Cq (Cb (Sr (P2 Y Y ?_))));obtain⟨q,b⟩:=sI l k;obtain⟨f,g,m⟩:=AC (n:=1) rfl a b;obtain rfl:f=[.int .i64 q]:=m;refine q1 Y (AJ (l:=l) (j:=k) BS Y Y Y (λw' hs=>(rA hs a)) Y (lS b)) (q1 Y (HI CJ Y Y g Y) (P2 Y Y (Dx (Ce Y (λo=>?_) (λo=>?_)))))
   ·refine Sr (Pe Y (Ct (Xq (Xr (Xr (Xq (Xr (Rb Y Y ?_))))))));exact A2D b (by omega)
   ·refine Ck (Xb (Xt (Cr (p1 Y (ad (k+1) Y (Pe Y (λac w' hf hs=>⟨_,?_,k+1,?_,?_,Y,hf.wk Y,hs⟩)))))))
    ·omega
    ·omega
    ·refine AF hi ?_;intro e;have:=b.symm.trans e;simp only[Option.some.injEq] at this;omega
  ·refine Cx (Xx (Xx (Xe (Xt (Sr (Pe Y (Ct (Rb Y Y ?_))))))));exact A2E (λi h=>hi i (by omega))
theorem NT{w:World}{d:Value}{l:(List Fact)}(a:Gd.rd w [d] l)(q:DD F9 l<=1048576):Cy 225 [d] w (HH w (l:List Fact)):=by
 have r:=rM a;unfold DD at q;refine enter 19 Tryz.func225 Y Y Y (Sr (Pe Y (Sr (Pe Y (Cq (Sr (p1 Y (dl B1 Y (AE a) (Pe Y (Cb (Cl (λm_ ac w'=>∃(k:Nat),∃(v:Value),(k<=l.length)/\m_=l.length-k/\Fits ac 19 [(3,v),(6,d),(7,(nv l.length)),(8,(nv k))]/\St w ([ov [v] (l.take k:(List Fact))]) w') ?_ ?_)))))))))))
 ·refine CG (α:=Fact) (A3 0 Y (show([]:(List Fact))=l.take 0 from by simp) (λac w' hf hs=>⟨_,0,(.slice none 0 0),?_,Y,hf.wk Y,hs⟩))
  ·omega
 ·rintro m_ ac w' ⟨k,v,hk,rfl,hf,hs⟩;refine D.use ?_ hf hs;clear hf hs ac w';have hcl:(l.take k).length<=k:=by rw[List.length_take];omega
  refine Sr (Pe Y (Dh ([_]) Y (Cq (Cd Y (λi=>?_) (λi=>?_)))))
  ·refine Sk (Cq (Cb (Sr ?_)));obtain⟨e,b⟩:=sI l k;have hle:=C8 (c:=F9) (List.mem_of_getElem? b);obtain⟨s,at4,f⟩:=AC (n:=2) rfl a b;obtain⟨m,rfl,g⟩:=AS f;have t:=rM g;refine q1 Y (AJ (l:=l) (j:=k) B1 Y Y Y (λw' hs=>(rA hs a)) Y (lS b)) (q1 Y (EX C3 Y Y at4) (aL I6 Y λg9=>?_));refine li Y (AZ (vs:=[(.string e.Rel),m]) (cs':=[(.string e.Rel),m]) 0 TP Y Y Y Y Y Y (AB Y (AB (A2 g) BR)) (by simp) Y ?_);refine Dx (Dh ([bx g9 [(.string e.Rel),m],_]) Y (Cr (p1 Y (q1 Y (C9 0 C3 Y Y Y) (qs Y iY Y (λw' hs=>(I1 (rA hs f) (by omega))) λo=>?_)))));refine Dp (λw' hs=>EZ (rO (k:=0) hs Y)) ?_;rintro⟨u,rfl,p⟩;refine li Y (FF B1 I6 Y (by decide) (by decide) Y Y Y Y Y Y λg13=>?_);refine AG [3,1,0,2] Y (li Y (GZ B1 I6 Y (by decide) Y Y Y Y Y Y (by omega) (by omega) λh=>?_));refine p1 Y (De (Xb (Xt (Dh ([ov [h] ((l.take k)++ [e]:(List Fact)),_]) Y (Cr (ad (k+1) Y (Pe Y (A3 0 Y (show((l.take k)++ [e]:(List Fact))=l.take (k+1) from by exact(A1 b).symm) (λac w' hf hs=>⟨_,?_,k+1,h,?_,Y,hf.wk Y,hs.pk [0] Y Y⟩)))))))))
   ·omega
   ·omega
  ·refine Cx (Xx (Xx (Xe (Xt (Sr (P2 Y Y (Dx (Ct (FV Y Y λw' hs=>A7 (k:=0) hs Y ?_)))))))));show l.take k=l;rw[List.take_of_length_le (by omega)]
theorem LK{w:World}{d:Value}{l:(List Fact)}(a:Gd.rd w [d] l)(q:DD F9 l<=1048576):Cy 240 [d] w (HH w (l:List Fact)):=by
 have r:=rM a;unfold DD at q;refine enter 21 Tryz.func240 Y Y Y (Sr (Pe Y (Sr (li Y (FL (α:=Fact) B1 Y Y Y λv2=>?_)))));refine Pe Y (Dh ([ov [v2] ([]:(List Fact))]) Y (Cq (Sr (Pe Y (Cb (Cl (λm_ ac w'=>∃(k:Nat),∃(v:Value),(k<=l.length)/\m_=l.length-k/\Fits ac 21 [(0,d),(3,v),(4,(nv k))]/\St w ([ov [v] (l.take k:(List Fact))]) w') ?_ ?_))))))
 ·refine A3 0 Y (show([]:(List Fact))=l.take 0 from by simp) (λac w' hf hs=>⟨_,0,v2,?_,Y,hf.wk Y,hs⟩)
  ·omega
 ·rintro m_ ac w' ⟨k,v,hk,rfl,hf,hs⟩;refine D.use ?_ hf hs;clear hf hs ac w';have hcl:(l.take k).length<=k:=by rw[List.length_take];omega
  refine Cq (Sr (P2 Y Y (dl B1 Y (AE a) (Pe Y (Dh ([_]) Y (Cd Y (λg=>?_) (λg=>?_)))))))
  ·refine Sk (Cq (Cb (Cr (P3 Y Y Y ?_))));obtain⟨m,b⟩:=sI l k;have hle:=C8 (c:=F9) (List.mem_of_getElem? b);obtain⟨s,h,e⟩:=AC (n:=2) rfl a b;obtain⟨x,rfl,i⟩:=AS e;have t:=rM i;refine q1 Y (AJ (l:=l) (j:=k) B1 Y Y Y (λw' hs=>(rA hs a)) Y (lS b)) (q1 Y (EX C3 Y Y h) (qs Y wD Y (λw' hs=>(K4 (rA hs e) (by omega))) λo=>?_));refine Dp (λw' hs=>EZ (rO (k:=0) hs Y)) ?_;rintro⟨u,rfl,p⟩;refine li Y (FF B1 I6 Y (by decide) (by decide) Y Y Y Y Y Y λg13=>?_);refine AG [2,1,0] Y (li Y (GZ B1 I6 Y (by decide) Y Y Y Y Y Y (by omega) (by omega) λf=>?_));refine p1 Y (De (Xb (Xt (Dh ([ov [f] ((l.take k)++ [m]:(List Fact))]) Y (Cr (p1 Y (ad (k+1) Y (Pe Y (A3 0 Y (show((l.take k)++ [m]:(List Fact))=l.take (k+1) from by exact(A1 b).symm) (λac w' hf hs=>⟨_,?_,k+1,f,?_,Y,hf.wk Y,hs⟩))))))))))
   ·omega
   ·omega
  ·refine Cx (Xx (Xx (Xe (Xt (Sr (P2 Y Y (Dx (Ct (FV Y Y λw' hs=>A7 (k:=0) hs Y ?_)))))))));show l.take k=l;rw[List.take_of_length_le (by omega)]
theorem KJ{w:World}{a:Value}{b:(List Pair)}(c:Gd.rd w [a] b)(e:b.length<=1048576):Cy 226 [a] w (HH w (b:List Pair)):=by
 have d:=rM c;refine enter 5 Tryz.func226 Y Y Y (Sr (Pe Y (Sr (p1 Y (CG (α:=Pair) (li Y (sH (α:=Pair) (ys:=b) CU GC Y (by decide) Y Y Y Y Y Y (λw' hs=>(rA hs c)) (by simp;omega) (by simp;omega) λv2=>?_)))))));refine Pe Y (Ct (FV Y Y λw' hs=>A7 (k:=0) hs Y ?_));show([])++b=b;rfl
theorem K6{w:World}{a:Value}{b:(List Pair)}(c:Gd.rd w [a] b)(e:b.length<=1048576):Cy 241 [a] w (HH w (b:List Pair)):=by
 have d:=rM c;refine enter 6 Tryz.func241 Y Y Y (Sr (Pe Y (Sr (li Y (FL (α:=Pair) CU Y Y Y λv2=>?_)))));refine p1 Y (li Y (sH (α:=Pair) (ys:=b) CU GC Y (by decide) Y Y Y Y Y Y (λw' hs=>(rA hs c)) (by simp;omega) (by simp;omega) λv3=>?_));refine Pe Y (Ct (FV Y Y λw' hs=>A7 (k:=0) hs Y ?_));show([])++b=b;rfl
theorem NU{w:World}{d:List Value}{m:Match}(g:Gd.rd w d m)(h:DJ m<=1048576):Cy 165 [(.agg d.toArray)] w (HH w (m:Match)):=by
 obtain⟨i,j,rfl,e,f⟩:=FG g;have l:=rM e;have n:=rM f;unfold DJ at h;have hbl:DD KE m.Binding=m.Binding.length+AI KE m.Binding:=rfl;refine enter 12 Tryz.func165 Y Y Y (Sr (bX Y λg7=>?_));refine aL YT Y λg8=>?_
 refine Dx (Dh ([bx g8 [(.string ⟨#[]⟩),(.slice none 0 0),(.slice none 0 0)],bx g7 [(.string m.Rule),i,j]]) Y (Cq (A0 mixed [9] (by kernel_rfl) (Tk 0 Y Y (Db LA Y Y (q:=0) Y) (Tk 1 Y Y (lb 1 BK Y Y Y Y) (Tk 2 Y Y (Db HN Y Y (q:=1) Y) (Tk 3 Y Y (lb 1 HK Y Y Y Y) (Tk 5 Y Y (Db Q3 Y Y (q:=2) Y) (Tk 6 Y Y (lb 1 Q4 Y Y Y Y) (ty 4 Y Y (YJ A0O Y Y Y Y (λw' hs=>(NT (rA hs e) (by omega))) λv9=>?_)))))))))));refine tS (λ_ hs=>hs.pk [1,2] Y Y) (ty 7 Y Y (YJ qD Y Y Y Y (λw' hs=>(KJ (rA hs f) (by omega))) λa=>?_));refine tS (λ_ hs=>hs.pk [2,3] Y Y) (Dp (λw' hs=>CZ (k:=1) hs Y) ?_);intro b;refine Dp (λw' hs=>CZ (k:=0) hs Y) ?_;intro c;refine Tj 8 Y Y (λ_ hs=>hs.pk [2,3] Y Y) (FJ (vs:=[(0,(.string m.Rule)),(1,v9),(2,a)]) (xs:=[(0,[(.string m.Rule)]),(1,[v9]),(2,[a])]) (cs:=[(.string m.Rule),v9,a]) iZ Y ⟨Y,Y,⟨Y,(AO b),⟨Y,(AO c),trivial⟩⟩⟩ Y Y) (ty 9 Y Y (AZ (vs:=[(.string m.Rule),v9,a]) (cs':=[(.string m.Rule),v9,a]) 2 wF Y Y Y Y Y Y (AB Y (AB b (AB c BR))) (by simp) Y ?_));refine tZ Y (tE (Xt (Ct (AG [1,0,2,3] Y (aV (r:=(m:Match)) (eW 1 TV Y Y Y λw' hs=>A7 (k:=0) hs Y ?_))))));show(m:Match)=m;rfl
theorem QR{w:World}{d:List Value}{m:Match}(g:Gd.rd w d m)(h:DJ m<=1048576):Cy 192 [(.agg d.toArray)] w (HH w (m:Match)):=by
 obtain⟨i,j,rfl,e,f⟩:=FG g;have l:=rM e;have n:=rM f;unfold DJ at h;have hbl:DD KE m.Binding=m.Binding.length+AI KE m.Binding:=rfl;refine enter 12 Tryz.func192 Y Y Y (Sr (bX Y λg7=>?_));refine aL YT Y λg8=>?_
 refine Dx (Dh ([bx g8 [(.string ⟨#[]⟩),(.slice none 0 0),(.slice none 0 0)],bx g7 [(.string m.Rule),i,j]]) Y (Cq (A0 mixed [9] (by kernel_rfl) (Tk 0 Y Y (Db LA Y Y (q:=0) Y) (Tk 1 Y Y (lb 1 BK Y Y Y Y) (Tk 2 Y Y (Db HN Y Y (q:=1) Y) (Tk 3 Y Y (lb 1 HK Y Y Y Y) (Tk 5 Y Y (Db Q3 Y Y (q:=2) Y) (Tk 6 Y Y (lb 1 Q4 Y Y Y Y) (ty 4 Y Y (YJ qE Y Y Y Y (λw' hs=>(LK (rA hs e) (by omega))) λv9=>?_)))))))))));refine tS (λ_ hs=>hs.pk [1,2] Y Y) (ty 7 Y Y (YJ jA Y Y Y Y (λw' hs=>(K6 (rA hs f) (by omega))) λa=>?_));refine tS (λ_ hs=>hs.pk [2,3] Y Y) (Dp (λw' hs=>CZ (k:=1) hs Y) ?_);intro b;refine Dp (λw' hs=>CZ (k:=0) hs Y) ?_;intro c;refine Tj 8 Y Y (λ_ hs=>hs.pk [2,3] Y Y) (FJ (vs:=[(0,(.string m.Rule)),(1,v9),(2,a)]) (xs:=[(0,[(.string m.Rule)]),(1,[v9]),(2,[a])]) (cs:=[(.string m.Rule),v9,a]) iZ Y ⟨Y,Y,⟨Y,(AO b),⟨Y,(AO c),trivial⟩⟩⟩ Y Y) (ty 9 Y Y (AZ (vs:=[(.string m.Rule),v9,a]) (cs':=[(.string m.Rule),v9,a]) 2 wF Y Y Y Y Y Y (AB Y (AB b (AB c BR))) (by simp) Y ?_));refine tZ Y (tE (Xt (Ct (AG [1,0,2,3] Y (aV (r:=(m:Match)) (eW 1 TV Y Y Y λw' hs=>A7 (k:=0) hs Y ?_))))));show(m:Match)=m;rfl
theorem dT{w:World}{g:Value}{l:(List Stamp)}{m:List Value}{f:Fact}(a:Gd.rd w [g] l)(o:Gd.rd w m f):Cy 227 [g,(.agg m.toArray)] w (Val w (iv (GG l f))):=by
 have z:=rM a;obtain⟨v,rfl,s⟩:=AS o;have a0:=rM s;refine enter 20 Tryz.func227 Y Y Y (Sr (bX Y λg5=>?_));refine Pe Y (Dh ([bx g5 [(.string f.Rel),v]]) Y (Cq (Sr (p1 Y (dl HJ Y (AE a) (Pe Y (Cb (Cl (λm_ ac w'=>∃(k:Nat),(k<=l.length)/\(∀i,i<k->∀y,l[i]?=some y->y.Fact≠f)/\m_=l.length-k/\Fits ac 20 [(3,(pv g5)),(7,g),(8,(nv l.length)),(9,(nv k))]/\St w ([bx g5 [(.string f.Rel),v]]) w') ?_ ?_))))))))
 ·refine λac w' hf hs=>⟨_,0,?_,?_,Y,hf.wk Y,hs⟩
  ·omega
  ·intro i hi;omega
 ·rintro m_ ac w' ⟨k,hk,hi,rfl,hf,hs⟩;refine D.use ?_ hf hs;clear hf hs ac w';refine Sr (Pe Y (Cq (Cd Y (λt=>?_) (λt=>?_))))
  ·refine Sk (Cq (Cb (Sr ?_)));obtain⟨b,c⟩:=sI l k;obtain⟨a1,at8,p⟩:=AC (n:=3) rfl a c;obtain⟨d,rfl,e⟩:=B9 p;have x:=rM e;have r:=BE p;refine q1 Y (AJ (l:=l) (j:=k) HJ Y Y Y (λw' hs=>(rA hs a)) Y (lS c)) (q1 Y (EX P6 Y Y at8) (aL SC Y λg14=>?_));refine li Y (AZ (vs:=[(.string b.Fact.Rel),d,(iv b.Time)]) (cs':=[(.string b.Fact.Rel),d,(iv b.Time)]) 0 TQ Y Y Y Y Y Y (AB Y (AB (A2 e) (AB Y BR))) (by simp) Y ?_);refine Dx (Dh ([bx g14 [(.string b.Fact.Rel),d,(iv b.Time)],_]) Y (Sr (q1 Y (Db IU Y Y (q:=0) Y) (q1 Y (H2 (es:=[(.string b.Fact.Rel),d]) 0 C3 Y Y Y Y) (q1 Y (C9 1 C3 Y Y Y) (qv A0P Y (λw' hs=>(OU (rA hs r) (rA hs o))) (Dx (Ci _ Y (λu=>?_) (λu=>?_)))))))))
   ·refine Sr (fl 0 F6 CJ Y (Pe Y (Ct (Xq (Xr (Xr (Xq (Xr (Ri Y Y ?_)))))))));show(b.Time:Int)=_;exact cW c (by simp_all) hi
   ·refine Ck (Xb (Xt (Cr (ad (k+1) Y (Pe Y (λac w' hf hs=>⟨_,?_,k+1,?_,?_,Y,hf.wk Y,hs.pk [1] Y Y⟩))))))
    ·omega
    ·omega
    ·refine AF hi ?_;intro y hy;obtain rfl:y=b:=Option.some.inj (hy.symm.trans c);simp_all
  ·refine Cx (Xx (Xx (Xe (Xt (Sr (Pe Y (Ct (Ri Y Y ?_))))))));show(0:Int)=_;exact cX (λi h=>hi i (by omega))
theorem dU{w:World}{c:Value}{l:(List Stamp)}{d:List Value}{f:Fact}(a:Gd.rd w [c] l)(e:Gd.rd w d f):Cy 95 [c,(.agg d.toArray)] w (Val w (iv (GG l f))):=by
 have v:=rM a;obtain⟨s,rfl,p⟩:=AS e;have x:=rM p;refine enter 24 Tryz.func95 Y Y Y (Sr (bX Y λg5=>?_));refine Pe Y (Dh ([bx g5 [(.string f.Rel),s]]) Y (Cq (Sr (Pe Y (Cb (Cl (λm_ ac w'=>∃(k:Nat),(k<=l.length)/\(∀i,i<k->∀y,l[i]?=some y->y.Fact≠f)/\m_=l.length-k/\Fits ac 24 [(0,c),(3,(pv g5)),(5,(nv k))]/\St w ([bx g5 [(.string f.Rel),s]]) w') ?_ ?_))))))
 ·refine λac w' hf hs=>⟨_,0,?_,?_,Y,hf.wk Y,hs⟩
  ·omega
  ·intro i hi;omega
 ·rintro m_ ac w' ⟨k,hk,hi,rfl,hf,hs⟩;refine D.use ?_ hf hs;clear hf hs ac w';refine Cq (Sr (P2 Y Y (dl HJ Y (AE a) (Pe Y (Cd Y (λq=>?_) (λq=>?_))))))
  ·refine Sk (Cq (Cb (Cq (A0 mixed [6] (by kernel_rfl) (tK 5 [0,1] Y ?_)))));obtain⟨t,b⟩:=sI l k;obtain⟨z,at8,g⟩:=AC (n:=3) rfl a b;obtain⟨a0,rfl,m⟩:=B9 g;have u:=rM m;have o:=BE g;refine Tk 2 Y Y (AJ (l:=l) (j:=k) HJ Y Y Y (λw' hs=>(rA hs a)) Y (lS b)) (Tk 3 Y Y (B2 IU Y Y) (Tk 4 Y Y (EX C3 Y Y (Q1 (f:=0) (n:=2) at8 Y)) (Tk 5 Y Y (C9 0 C3 Y Y Y) (ty 6 Y Y (cv A4H Y Y Y Y (λw' hs=>(cJ (rA hs o) (rA hs e))) ?_)))));refine tZ Y (tE (Xt (Ci _ Y (λr=>?_) (λr=>?_))))
   ·refine Sr (P2 Y Y (q1 Y (AJ (l:=l) (j:=k) HJ Y Y Y (λw' hs=>(rA hs a)) Y (lS b)) (q1 Y (B2 F6 Y Y) (q1 Y (lr CJ Y Y at8 Y) (Pe Y (Ct (Xq (Xr (Xr (Xq (Xr (Ri Y Y ?_))))))))))));show(t.Time:Int)=_;exact cW b (by simp_all) hi
   ·refine Ck (Xb (Xt (Cr (p1 Y (ad (k+1) Y (Pe Y (λac w' hf hs=>⟨_,?_,k+1,?_,?_,Y,hf.wk Y,hs⟩)))))))
    ·omega
    ·omega
    ·refine AF hi ?_;intro y hy;obtain rfl:y=t:=Option.some.inj (hy.symm.trans b);simp_all
  ·refine Cx (Xx (Xx (Xe (Xt (Sr (Pe Y (Ct (Ri Y Y ?_))))))));show(0:Int)=_;exact cX (λi h=>hi i (by omega))
theorem WE{w:World}{g:Value}{l:(List Stamp)}{m:List Value}{f:Fact}(a:Gd.rd w [g] l)(o:Gd.rd w m f):Cy 48 [g,(.agg m.toArray)] w (Val w (.bool (K5 l f))):=by
 have z:=rM a;obtain⟨v,rfl,s⟩:=AS o;have a0:=rM s;refine enter 18 Tryz.func48 Y Y Y (Sr (bX Y λg5=>?_));refine Pe Y (Dh ([bx g5 [(.string f.Rel),v]]) Y (Cq (Sr (p1 Y (dl HJ Y (AE a) (Pe Y (Cb (Cl (λm_ ac w'=>∃(k:Nat),(k<=l.length)/\(∀i,i<k->∀y,l[i]?=some y->y.Fact≠f)/\m_=l.length-k/\Fits ac 18 [(3,(pv g5)),(7,g),(8,(nv l.length)),(9,(nv k))]/\St w ([bx g5 [(.string f.Rel),v]]) w') ?_ ?_))))))))
 ·refine λac w' hf hs=>⟨_,0,?_,?_,Y,hf.wk Y,hs⟩
  ·omega
  ·intro i hi;omega
 ·rintro m_ ac w' ⟨k,hk,hi,rfl,hf,hs⟩;refine D.use ?_ hf hs;clear hf hs ac w';refine Sr (Pe Y (Cq (Cd Y (λt=>?_) (λt=>?_))))
  ·refine Sk (Cq (Cb (Sr ?_)));obtain⟨d,b⟩:=sI l k;obtain⟨a1,at8,p⟩:=AC (n:=3) rfl a b;obtain⟨c,rfl,e⟩:=B9 p;have x:=rM e;have r:=BE p;refine q1 Y (AJ (l:=l) (j:=k) HJ Y Y Y (λw' hs=>(rA hs a)) Y (lS b)) (q1 Y (EX P6 Y Y at8) (aL SC Y λg14=>?_));refine li Y (AZ (vs:=[(.string d.Fact.Rel),c,(iv d.Time)]) (cs':=[(.string d.Fact.Rel),c,(iv d.Time)]) 0 TQ Y Y Y Y Y Y (AB Y (AB (A2 e) (AB Y BR))) (by simp) Y ?_);refine Dx (Dh ([bx g14 [(.string d.Fact.Rel),c,(iv d.Time)],_]) Y (Sr (q1 Y (Db IU Y Y (q:=0) Y) (q1 Y (H2 (es:=[(.string d.Fact.Rel),c]) 0 C3 Y Y Y Y) (q1 Y (C9 1 C3 Y Y Y) (qv A0P Y (λw' hs=>(OU (rA hs r) (rA hs o))) (Dx (Ci _ Y (λu=>?_) (λu=>?_)))))))))
   ·refine Sr (Pe Y (Ct (Xq (Xr (Xr (Xq (Xr (Rb Y Y ?_))))))));exact xP b (by simp_all) hi
   ·refine Ck (Xb (Xt (Cr (ad (k+1) Y (Pe Y (λac w' hf hs=>⟨_,?_,k+1,?_,?_,Y,hf.wk Y,hs.pk [1] Y Y⟩))))))
    ·omega
    ·omega
    ·refine AF hi ?_;intro y hy;obtain rfl:y=d:=Option.some.inj (hy.symm.trans b);simp_all
  ·refine Cx (Xx (Xx (Xe (Xt (Sr (Pe Y (Ct (Rb Y Y ?_))))))));exact xQ (λi h=>hi i (by omega))
theorem Z3{w:World}{c:Value}{l:(List Stamp)}{b:Value}{facts:(List Fact)}(f:Gd.rd w [c] l)(a:Gd.rd w [b] facts)(t:facts.length<=1048576):Cy 166 [c,b] w (HH w (BJ l facts:List Int)):=by
 have p:=rM f;have q:=rM a;refine enter 22 Tryz.func166 Y Y Y (Sr (Pe Y (Sr (Pe Y (Cq (Sr (p1 Y (dl B1 Y (AE a) (Pe Y (Cb (Cl (λm_ ac w'=>∃(k:Nat),∃(v:Value),(k<=facts.length)/\m_=facts.length-k/\Fits ac 22 [(0,c),(5,v),(8,b),(9,(nv facts.length)),(10,(nv k))]/\St w ([ov [v] (BJ l (facts.take k):(List Int))]) w') ?_ ?_)))))))))))
 ·refine CG (α:=Int) (A3 0 Y (show([]:(List Int))=BJ l (facts.take 0) from by exact XO l facts) (λac w' hf hs=>⟨_,0,(.slice none 0 0),?_,Y,hf.wk Y,hs⟩))
  ·omega
 ·rintro m_ ac w' ⟨k,v,hk,rfl,hf,hs⟩;refine D.use ?_ hf hs;clear hf hs ac w';have hcl:=SL l facts k;refine Sr (Pe Y (Dh ([_]) Y (Cq (Cd Y (λi=>?_) (λi=>?_)))))
  ·refine Sk (Cq (Cb (Sr ?_)));obtain⟨e,d⟩:=sI facts k;obtain⟨r,m,g⟩:=AC (n:=2) rfl a d;obtain⟨o,rfl,h⟩:=AS g;have s:=rM h;refine q1 Y (AJ (l:=facts) (j:=k) B1 Y Y Y (λw' hs=>(rA hs a)) Y (lS d)) (q1 Y (EX C3 Y Y m) (aL I6 Y λg10=>?_));refine li Y (AZ (vs:=[(.string e.Rel),o]) (cs':=[(.string e.Rel),o]) 0 TP Y Y Y Y Y Y (AB Y (AB (A2 h) BR)) (by simp) Y ?_);refine Dx (Dh ([bx g10 [(.string e.Rel),o],_]) Y (Cr (P2 Y Y (q1 Y (C9 0 C3 Y Y Y) (qv A4I Y (λw' hs=>(dT (rA hs f) (rA hs g))) (li Y (FF BS vH Y (by decide) (by decide) Y Y Y Y Y Y λg11=>?_)))))));refine O7 (GG l e) (AG [3,0,1,2] Y (li Y (GZ BS vH Y (by decide) Y Y Y Y Y Y (by omega) (by omega) λv12=>?_)));refine p1 Y (De (Xb (Xt (Dh ([ov [v12] ((BJ l (facts.take k))++ [(GG l e)]:(List Int)),_]) Y (Cr (ad (k+1) Y (Pe Y (A3 0 Y (show((BJ l (facts.take k))++ [(GG l e)]:(List Int))=BJ l (facts.take (k+1)) from by exact XN d) (λac w' hf hs=>⟨_,?_,k+1,v12,?_,Y,hf.wk Y,hs.pk [0] Y Y⟩)))))))))
   ·omega
   ·omega
  ·refine Cx (Xx (Xx (Xe (Xt (Sr (P2 Y Y (Dx (Ct (FV Y Y λw' hs=>A7 (k:=0) hs Y ?_)))))))));show BJ l (facts.take k)=BJ l facts;rw[List.take_of_length_le (by omega)]
theorem Z4{w:World}{c:Value}{l:(List Stamp)}{b:Value}{facts:(List Fact)}(e:Gd.rd w [c] l)(a:Gd.rd w [b] facts)(t:facts.length<=1048576):Cy 190 [c,b] w (HH w (BJ l facts:List Int)):=by
 have q:=rM e;have r:=rM a;refine enter 24 Tryz.func190 Y Y Y (Sr (Pe Y (Sr (li Y (FL (α:=Int) BS Y Y Y λv3=>?_)))));refine Pe Y (Dh ([ov [v3] ([]:(List Int))]) Y (Cq (Sr (Pe Y (Cb (Cl (λm_ ac w'=>∃(k:Nat),∃(v:Value),(k<=facts.length)/\m_=facts.length-k/\Fits ac 24 [(0,c),(1,b),(5,v),(6,(nv k))]/\St w ([ov [v] (BJ l (facts.take k):(List Int))]) w') ?_ ?_))))))
 ·refine A3 0 Y (show([]:(List Int))=BJ l (facts.take 0) from by exact XO l facts) (λac w' hf hs=>⟨_,0,v3,?_,Y,hf.wk Y,hs⟩)
  ·omega
 ·rintro m_ ac w' ⟨k,v,hk,rfl,hf,hs⟩;refine D.use ?_ hf hs;clear hf hs ac w';have hcl:=SL l facts k;refine Cq (Sr (P2 Y Y (dl B1 Y (AE a) (Pe Y (Dh ([_]) Y (Cd Y (λi=>?_) (λi=>?_)))))))
  ·refine Sk (Cq (Cb (Cr (P3 Y Y Y (p1 Y ?_)))));obtain⟨m,d⟩:=sI facts k;obtain⟨s,o,f⟩:=AC (n:=2) rfl a d;obtain⟨u,rfl,g⟩:=AS f;have p:=rM g;refine q1 Y (AJ (l:=facts) (j:=k) B1 Y Y Y (λw' hs=>(rA hs a)) Y (lS d)) (q1 Y (EX C3 Y Y o) (qv A6v Y (λw' hs=>(dU (rA hs e) (rA hs f))) (li Y (FF BS vH Y (by decide) (by decide) Y Y Y Y Y Y λg12=>?_))));refine O7 (GG l m) (AG [2,0,1] Y (li Y (GZ BS vH Y (by decide) Y Y Y Y Y Y (by omega) (by omega) λh=>?_)));refine p1 Y (De (Xb (Xt (Dh ([ov [h] ((BJ l (facts.take k))++ [(GG l m)]:(List Int))]) Y (Cr (p1 Y (ad (k+1) Y (Pe Y (A3 0 Y (show((BJ l (facts.take k))++ [(GG l m)]:(List Int))=BJ l (facts.take (k+1)) from by exact XN d) (λac w' hf hs=>⟨_,?_,k+1,h,?_,Y,hf.wk Y,hs⟩))))))))))
   ·omega
   ·omega
  ·refine Cx (Xx (Xx (Xe (Xt (Sr (P2 Y Y (Dx (Ct (FV Y Y λw' hs=>A7 (k:=0) hs Y ?_)))))))));show BJ l (facts.take k)=BJ l facts;rw[List.take_of_length_le (by omega)]
theorem RO{w:World}{m:List Value}{r:Rule}(y:Gd.rd w m r)(hn:BG r<=1048576):Cy 167 [(.agg m.toArray)] w (Val w (iv ((GD r:Int)))):=by
 obtain⟨o,z,rfl,e,a1⟩:=BC y;have a6:=rM e;have a7:=rM a1;unfold BG DD at hn;refine enter 33 Tryz.func167 Y Y Y (Sr (bX Y λg7=>?_));refine Pe Y (Dh ([bx g7 [(.string r.Name),(iv r.Priority),o,z]]) Y (Sr (fl 0 CO GN Y (dl D6 Y (AE e) (Pe Y (Cq (Sr (fl 0 CO GN Y (dl D6 Y (AE e) (Pe Y (Cb (Cl (λm_ ac w'=>∃(k:Nat),∃(c:Nat),(k<=r.If.length)/\(c=r.If.length+AI nS (r.If.take k))/\m_=r.If.length-k/\Fits ac 33 [(3,(nv c)),(12,o),(13,(nv r.If.length)),(14,(nv k))]/\St w ([bx g7 [(.string r.Name),(iv r.Priority),o,z]]) w') ?_ ?_))))))))))))
 ·refine λac w' hf hs=>⟨_,0,r.If.length,?_,?_,Y,hf.wk Y,hs⟩
  ·omega
  ·simp[AI]
 ·rintro m_ ac w' ⟨k,c,hk,hc,rfl,hf,hs⟩;refine D.use ?_ hf hs;clear hf hs ac w';have a8:=cZ r.If k;have a9:=kD r.If;refine Sr (Pe Y (Cq (Cd Y (λa2=>?_) (λa2=>?_))))
  ·refine Sk (Cq (Cb (Sr ?_)));obtain⟨a,g⟩:=sI r.If k;obtain⟨aa,p,i⟩:=AC (n:=5) rfl e g;obtain⟨f,rfl,b⟩:=A8 i;have a4:=rM b;have a5:=AK i;refine q1 Y (AJ (l:=r.If) (j:=k) D6 Y Y Y (λw' hs=>(rA hs e)) Y (lS g)) (q1 Y (EX D4 Y Y p) (aL MN Y λg16=>?_));refine li Y (AZ (vs:=[(iv a.Kind),(.string a.Pattern.Rel),f,(.string a.Left),(.string a.Right)]) (cs':=[(iv a.Kind),(.string a.Pattern.Rel),f,(.string a.Left),(.string a.Right)]) 0 M3 Y Y Y Y Y Y (AB Y (AB Y (AB (A2 b) (AB Y (AB Y BR))))) (by simp) Y ?_);refine Dx (Dh ([bx g16 [(iv a.Kind),(.string a.Pattern.Rel),f,(.string a.Left),(.string a.Right)],_]) Y (Sr (q1 Y (Db CB Y Y (q:=1) Y) (fl 0 C4 B5 Y (dl AU Y (AE b) (Pe Y (Cb (Cl (λm_ ac w'=>∃(j:Nat),∃(d:Nat),(j<=a.Pattern.Args.length)/\(d=c+kB (a.Pattern.Args.take j))/\m_=a.Pattern.Args.length-j/\Fits ac 33 [(3,(nv d)),(12,o),(13,(nv r.If.length)),(14,(nv k)),(20,f),(21,(nv a.Pattern.Args.length)),(22,(nv j))]/\St w ([bx g16 [(iv a.Kind),(.string a.Pattern.Rel),f,(.string a.Left),(.string a.Right)],bx g7 [(.string r.Name),(iv r.Priority),o,z]]) w') ?_ ?_))))))))
   ·refine λac w' hf hs=>⟨_,0,c,?_,?_,Y,hf.wk Y,hs⟩
    ·omega
    ·simp[kB]
   ·rintro m_ ac w' ⟨j,d,hj,hd,rfl,hf,hs⟩;refine D.use ?_ hf hs;clear hf hs ac w';have ab:=gK (a.Pattern.Args.take j);have ae:(a.Pattern.Args.take j).length<=j:=by rw[List.length_take];omega
    have af:=BX a;have ag:=IX g;refine Sr (Pe Y (Cq (Cd Y (λs=>?_) (λs=>?_))))
    ·refine Sk (Cq (Cb (Sr ?_)));obtain⟨a0,h⟩:=sI a.Pattern.Args j;obtain⟨t,u,v⟩:=AC (n:=1) rfl b h;obtain rfl:t=[.string a0]:=v;refine q1 Y (AJ (l:=a.Pattern.Args) (j:=j) AU Y Y Y (λw' hs=>(rA hs b)) Y (lS h)) (q1 Y (HI BK Y Y u Y) (Pe Y (Sr (p1 Y (qv P4 Y (λw' hs=>FC) (Dx (Ci _ Y (λa3=>?_) (λa3=>?_))))))))
     ·refine Cr (p1 Y (ad (d+1) Y (p1 Y (De (Xb (Xt (Cr (ad (j+1) Y (Pe Y (λac w' hf hs=>⟨_,?_,j+1,d+1,?_,?_,Y,hf.wk Y,hs⟩))))))))))
      ·omega
      ·omega
      ·have:=A0u h ‹_›;omega
     ·refine Ck (Xb (Xt (Cr (ad (j+1) Y (Pe Y (λac w' hf hs=>⟨_,?_,j+1,d,?_,?_,Y,hf.wk Y,hs⟩))))))
      ·omega
      ·omega
      ·have:=A0v h ‹_›;omega
    ·refine Cx (Xx (Xx (Xe (Xb (Xt (Cr (ad (k+1) Y (Pe Y (λac w' hf hs=>⟨_,?_,k+1,d,?_,?_,Y,hf.wk Y,hs.pk [1] Y Y⟩)))))))))
     ·omega
     ·omega
     ·have hst:=G2 (c:=nS) g;have hse:=kC (x:=a) (k:=j) (by omega);omega
  ·refine Cx (Xx (Xx (Xe (Xt (Sr (P2 Y Y (Dx (Ct (Ri Y Y ?_)))))))));show(((c:Nat):Int):Int)=_;unfold GD;rw[List.take_of_length_le (by omega)] at hc;omega
theorem RP{w:World}{m:List Value}{r:Rule}(u:Gd.rd w m r)(hn:BG r<=1048576)(ho:H9 r):Cy 193 [(.agg m.toArray)] w (Val w (iv ((GD r:Int)))):=by
 obtain⟨v,y,rfl,b,z⟩:=BC u;have a5:=rM b;have a6:=rM z;unfold BG DD at hn;refine enter 42 Tryz.func193 Y Y Y (Sr (bX Y λg7=>?_));refine Pe Y (Dh ([bx g7 [(.string r.Name),(iv r.Priority),v,y]]) Y (Sr (fl 0 CO GN Y (dl D6 Y (AE b) (Pe Y (Cq (Sr (Pe Y (Cb (Cl (λm_ ac w'=>∃(k:Nat),∃(c:Nat),(k<=r.If.length)/\(c=r.If.length+AI nS (r.If.take k))/\m_=r.If.length-k/\Fits ac 42 [(1,(pv g7)),(3,(nv c)),(4,(nv k))]/\St w ([bx g7 [(.string r.Name),(iv r.Priority),v,y]]) w') ?_ ?_))))))))))
 ·refine λac w' hf hs=>⟨_,0,r.If.length,?_,?_,Y,hf.wk Y,hs⟩
  ·omega
  ·simp[AI]
 ·rintro m_ ac w' ⟨k,c,hk,hc,rfl,hf,hs⟩;refine D.use ?_ hf hs;clear hf hs ac w';have a7:=cZ r.If k;have a8:=kD r.If;refine Cq (Sr (p1 Y (fl 0 CO GN Y (dl D6 Y (AE b) (Pe Y (Cd Y (λa1=>?_) (λa1=>?_)))))))
  ·refine Sk (Cq (Cb (Cq ?_)));obtain⟨g,e⟩:=sI r.If k;obtain⟨a9,h,i⟩:=AC (n:=5) rfl b e;obtain⟨aa,rfl,a⟩:=A8 i;have a3:=rM a;have a4:=AK i;refine Cr (Pe Y (Cb (Cl (λm_ ac w'=>∃(j:Nat),∃(d:Nat),(j<=g.Pattern.Args.length)/\(d=c+kB (g.Pattern.Args.take j))/\m_=g.Pattern.Args.length-j/\Fits ac 42 [(1,(pv g7)),(3,(nv d)),(4,(nv k)),(5,(nv j))]/\St w ([bx g7 [(.string r.Name),(iv r.Priority),v,y]]) w') ?_ ?_)))
   ·refine λac w' hf hs=>⟨_,0,c,?_,?_,Y,hf.wk Y,hs⟩
    ·omega
    ·simp[kB]
   ·rintro m_ ac w' ⟨j,d,hj,hd,rfl,hf,hs⟩;refine D.use ?_ hf hs;clear hf hs ac w';have ab:=gK (g.Pattern.Args.take j);have ae:(g.Pattern.Args.take j).length<=j:=by rw[List.length_take];omega
    have af:=BX g;have ag:=IX e;refine Cq (Sr (p1 Y (fl 0 CO GN Y (p1 Y (q1 Y (AJ (l:=r.If) (j:=k) D6 Y Y Y (λw' hs=>(rA hs b)) Y (lS e)) (q1 Y (B2 CB Y Y) (q1 Y (JP C4 Y Y (q:=2) Y) (q1 Y (lr B5 Y Y h Y) (dl AU Y (AE a) (Pe Y (Cd Y (λo=>?_) (λo=>?_))))))))))))
    ·refine Sk (Cq (Cb (Sr (fl 0 CO GN Y (p1 Y (q1 Y (AJ (l:=r.If) (j:=k) D6 Y Y Y (λw' hs=>(rA hs b)) Y (lS e)) (q1 Y (B2 CB Y Y) (q1 Y (JP C4 Y Y (q:=2) Y) (q1 Y (lr B5 Y Y h Y) (p1 Y ?_))))))))));obtain⟨a0,f⟩:=sI g.Pattern.Args j;obtain⟨p,s,t⟩:=AC (n:=1) rfl a f;obtain rfl:p=[.string a0]:=t;refine q1 Y (AJ (l:=g.Pattern.Args) (j:=j) AU Y Y Y (λw' hs=>(rA hs a)) Y (lS f)) (q1 Y (HI BK Y Y s Y) (qv P5 Y (λw' hs=>(FD ((ho.2.2.1 _ (List.mem_of_getElem? e)).2.1.2 _ (List.mem_of_getElem? f)))) (Dx (AH [1,3,4,5,38] Y (Ci _ Y (λa2=>?_) (λa2=>?_))))))
     ·refine Cr (p1 Y (ad (d+1) Y (p1 Y (De (Xb (Xt (Cr (p1 Y (ad (j+1) Y (Pe Y (λac w' hf hs=>⟨_,?_,j+1,d+1,?_,?_,Y,hf.wk Y,hs⟩)))))))))))
      ·omega
      ·omega
      ·have:=A0u f ‹_›;omega
     ·refine Ck (Xb (Xt (Cr (p1 Y (ad (j+1) Y (Pe Y (λac w' hf hs=>⟨_,?_,j+1,d,?_,?_,Y,hf.wk Y,hs⟩)))))))
      ·omega
      ·omega
      ·have:=A0v f ‹_›;omega
    ·refine Cx (Xx (Xx (Xe (Xb (Xt (Cr (p1 Y (ad (k+1) Y (Pe Y (λac w' hf hs=>⟨_,?_,k+1,d,?_,?_,Y,hf.wk Y,hs⟩))))))))))
     ·omega
     ·omega
     ·have hst:=G2 (c:=nS) e;have hse:=kC (x:=g) (k:=j) (by omega);omega
  ·refine Cx (Xx (Xx (Xe (Xt (Sr (P2 Y Y (Dx (Ct (Ri Y Y ?_)))))))));show(((c:Nat):Int):Int)=_;unfold GD;rw[List.take_of_length_le (by omega)] at hc;omega
theorem WF{w:World}{b:Value}{rules:(List Rule)}{v:Value}{l:(List Stamp)}{a1:List Value}{m:Match}(a:Gd.rd w [b] rules)(z:Gd.rd w [v] l)(a2:Gd.rd w a1 m)(hn:DD BG rules<=1048576)(hm:DJ m<=1048576):Cy 110 [b,v,(.agg a1.toArray)] w (O8 w (FU rules l m:Choice) (KG rules l m:Bool)):=by
 have al:=rM a;have am:=rM z;obtain⟨u3,u5,rfl,e,ab⟩:=FG a2;have an:=rM e;have ao:=rM ab;have ae:=hm;unfold DJ DD at hm;have hfl:=QI rules m.Rule;have ap:=hn;unfold DD at hn;refine enter 49 Tryz.func110 Y Y Y (Sr (bX Y λg9=>?_));refine aL PE Y λg10=>?_
 refine Pe Y (Dh ([bx g10 [(.string ⟨#[]⟩),(.slice none 0 0),(.slice none 0 0),(iv 0),(.slice none 0 0),(iv 0),(iv 0)],bx g9 [(.string m.Rule),u3,u5]]) Y (Sr (p1 Y (fl 1 LA BK Y (qv pW Y (λw' hs=>(LD (rA hs a))) (Pe Y (Cq (Sr (P2 Y Y (Dx (Cd Y (λa3=>?_) (λa3=>?_))))))))))))
 ·refine Sr (q1 Y (FY (vs:=[]) (cs:=[(.string ⟨#[]⟩),(.slice none 0 0),(.slice none 0 0),(iv 0),(.slice none 0 0),(iv 0),(iv 0)]) Y (λ_=>by kernel_rfl) Y) (li Y (AZ (vs:=[(.string ⟨#[]⟩),(.slice none 0 0),(.slice none 0 0),(iv 0),(.slice none 0 0),(iv 0),(iv 0)]) (cs':=[(.string ⟨#[]⟩),(.slice none 0 0),(.slice none 0 0),(iv 0),(.slice none 0 0),(iv 0),(iv 0)]) 0 OJ Y Y Y Y Y Y (AB Y (AB Y (AB Y (AB Y (AB Y (AB Y (AB Y BR))))))) (by simp) Y ?_)));refine Pe Y (Ct (Xr (CG (α:=Fact) (CG (α:=Pair) (CG (α:=Int) (AG [2,1,0,3,4] Y (FO (r:=(⟨⟨⟨#[]⟩,[],[]⟩,0,[],0,0⟩:Choice)) (AX false (AG [1,0,2,3] Y (DL Y (zH (cs:=[(.string ⟨#[]⟩),(.slice none 0 0),(.slice none 0 0),(iv 0),(.slice none 0 0),(iv 0),(iv 0)]) 2 IM Y Y) (D8 Y) λw' hs=>AY (c1:=[(.string ⟨#[]⟩),(.slice none 0 0),(.slice none 0 0),(iv 0),(.slice none 0 0),(iv 0),(iv 0)]) (c2:=[(.bool false)]) hs ?_ ?_))))))))))
  ·show((⟨⟨⟨#[]⟩,[],[]⟩,0,[],0,0⟩:Choice):Choice)=FU rules l m;exact(ZN (ZM (by omega))).1
  ·show(false:Bool)=KG rules l m;exact(ZN (ZM (by omega))).2
 ·refine Sk (Cq (Sr (fl 1 HN HK Y (dl B1 Y (AE e) (Pe Y (Cb (Cl (λm_ ac w'=>∃(k:Nat),(k<=m.Facts.length)/\(∀i,i<k->∀f,m.Facts[i]?=some f->K5 l f=true)/\m_=m.Facts.length-k/\Fits ac 49 [(0,b),(1,v),(5,(pv g9)),(6,(pv g10)),(8,(iv (BN rules m.Rule))),(19,u3),(20,(nv m.Facts.length)),(21,(nv k))]/\St w ([bx g10 [(.string ⟨#[]⟩),(.slice none 0 0),(.slice none 0 0),(iv 0),(.slice none 0 0),(iv 0),(iv 0)],bx g9 [(.string m.Rule),u3,u5]]) w') ?_ ?_)))))))
  ·refine λac w' hf hs=>⟨_,0,?_,?_,Y,hf.wk Y,hs⟩
   ·omega
   ·intro i hi;omega
  ·rintro m_ ac w' ⟨k,hk,hi,rfl,hf,hs⟩;refine D.use ?_ hf hs;clear hf hs ac w';refine Sr (Pe Y (Cq (Cd Y (λa4=>?_) (λa4=>?_))))
   ·refine Sk (Cq (Cb (Sr ?_)));obtain⟨f0,g⟩:=sI m.Facts k;obtain⟨af,a5,o⟩:=AC (n:=2) rfl e g;obtain⟨a0,rfl,p⟩:=AS o;have ag:=rM p;refine q1 Y (AJ (l:=m.Facts) (j:=k) B1 Y Y Y (λw' hs=>(rA hs e)) Y (lS g)) (q1 Y (EX C3 Y Y a5) (aL I6 Y λg20=>?_));refine li Y (AZ (vs:=[(.string f0.Rel),a0]) (cs':=[(.string f0.Rel),a0]) 0 TP Y Y Y Y Y Y (AB Y (AB (A2 p) BR)) (by simp) Y ?_);refine Dx (Dh ([bx g20 [(.string f0.Rel),a0],_,_]) Y (Sr (p1 Y (q1 Y (C9 0 C3 Y Y Y) (qv A6w Y (λw' hs=>(WE (rA hs z) (rA hs o))) (Pe Y (CN Y (λa6=>?_) (λa6=>?_))))))))
    ·refine Sr (q1 Y (FY (vs:=[]) (cs:=[(.string ⟨#[]⟩),(.slice none 0 0),(.slice none 0 0),(iv 0),(.slice none 0 0),(iv 0),(iv 0)]) Y (λ_=>by kernel_rfl) Y) (li Y (AZ (vs:=[(.string ⟨#[]⟩),(.slice none 0 0),(.slice none 0 0),(iv 0),(.slice none 0 0),(iv 0),(iv 0)]) (cs':=[(.string ⟨#[]⟩),(.slice none 0 0),(.slice none 0 0),(iv 0),(.slice none 0 0),(iv 0),(iv 0)]) 1 OJ Y Y Y Y Y Y (AB Y (AB Y (AB Y (AB Y (AB Y (AB Y (AB Y BR))))))) (by simp) Y ?_)));refine Pe Y (Ct (Xq (Xr (Xr (Xq (Xr (CG (α:=Fact) (CG (α:=Pair) (CG (α:=Int) (AG [2,1,0,3,4,5] Y (FO (r:=(⟨⟨⟨#[]⟩,[],[]⟩,0,[],0,0⟩:Choice)) (AX false (AG [1,0,2,3,4] Y (DL Y (zH (cs:=[(.string ⟨#[]⟩),(.slice none 0 0),(.slice none 0 0),(iv 0),(.slice none 0 0),(iv 0),(iv 0)]) 3 IM Y Y) (D8 Y) λw' hs=>AY (c1:=[(.string ⟨#[]⟩),(.slice none 0 0),(.slice none 0 0),(iv 0),(.slice none 0 0),(iv 0),(iv 0)]) (c2:=[(.bool false)]) hs ?_ ?_))))))))))))))
     ·show((⟨⟨⟨#[]⟩,[],[]⟩,0,[],0,0⟩:Choice):Choice)=FU rules l m;exact(ZN (gL g (by simp_all))).1
     ·show(false:Bool)=KG rules l m;exact(ZN (gL g (by simp_all))).2
    ·refine Ck (Xb (Xt (Cr (ad (k+1) Y (Pe Y (λac w' hf hs=>⟨_,?_,k+1,?_,?_,Y,hf.wk Y,hs.pk [1,2] Y Y⟩))))))
     ·omega
     ·omega
     ·refine AF hi ?_;intro y hy;obtain rfl:y=f0:=Option.some.inj (hy.symm.trans g);simp_all
   ·refine Cx (Xx (Xx (Xe (Xt (Cq (A0 mixed [18,19] (by kernel_rfl) (Tk 0 Y Y (C9 1 TV Y Y Y) (tK 17 [2,3] Y ?_))))))));obtain⟨r0,d⟩:=sI rules ((BN rules m.Rule).toNat);have hrs:=C8 (c:=BG) (List.mem_of_getElem? d);obtain⟨ah,s,t⟩:=AC (n:=4) rfl a d;obtain⟨aq,ar,rfl,a7,a8⟩:=BC t;have ai:=rM a7;have aj:=rM a8;refine Tk 4 Y Y (AJ (l:=rules) (j:=((BN rules m.Rule).toNat)) HD Y Y Y (λw' hs=>(rA hs a)) (Int.toNat_of_nonneg (by omega)).symm (lS d)) (Tk 5 Y Y (B2 L4 Y Y) (Tk 6 Y Y (lr CJ Y Y s Y) (tR 7 Y Y (Tk 8 Y Y (Db HN Y Y (q:=1) Y) (Tk 9 Y Y (lb 1 HK Y Y Y Y) (tK 9 [11,12] Y (Tk 13 Y Y (AJ (l:=rules) (j:=((BN rules m.Rule).toNat)) HD Y Y Y (λw' hs=>(rA hs a)) (Int.toNat_of_nonneg (by omega)).symm (lS d)) (Tk 14 Y Y (EX I7 Y Y s) (tR 16 Y Y (ty 1 Y Y (zE Y A0Q Y Y Y Y (λw' hs=>(NU (rA hs a2) ae)) λak=>?_)))))))))));refine Dp (λw' hs=>KT (rO (k:=0) hs Y)) ?_;rintro⟨v32,v33,rfl,a9,aa⟩;refine tS (λ_ hs=>hs.pk [1,2] Y Y) (ty 10 Y Y (YJ A4J Y Y Y Y (λw' hs=>(Z3 (rA hs z) (rA hs e) (by omega))) λv36=>?_));refine tS (λ_ hs=>hs.pk [2,3] Y Y) (ty 15 Y Y (cv A4K Y Y Y Y (λw' hs=>(RO (rA hs t) (by omega))) ?_));refine tS (λ_ hs=>hs.pk [2,3] Y Y) (Dp (λw' hs=>CZ (k:=0) hs Y) ?_);intro u;refine Tj 17 Y Y (λ_ hs=>hs.pk [2,3] Y Y) (FJ (vs:=[(0,(.agg #[(.string m.Rule),v32,v33])),(1,(iv r0.Priority)),(2,v36),(3,(iv (GD r0:Int))),(4,(iv (BN rules m.Rule)))]) (xs:=[(0,[(.string m.Rule),v32,v33]),(1,[(iv r0.Priority)]),(2,[v36]),(3,[(iv (GD r0:Int))]),(4,[(iv (BN rules m.Rule))])]) (cs:=[(.string m.Rule),v32,v33,(iv r0.Priority),v36,(iv (GD r0:Int)),(iv (BN rules m.Rule))]) jB Y ⟨Y,Y,⟨Y,Y,⟨Y,(AO u),⟨Y,Y,⟨Y,Y,trivial⟩⟩⟩⟩⟩ Y Y) (ty 18 Y Y (AZ (vs:=[(.string m.Rule),v32,v33,(iv r0.Priority),v36,(iv (GD r0:Int)),(iv (BN rules m.Rule))]) (cs':=[(.string m.Rule),v32,v33,(iv r0.Priority),v36,(iv (GD r0:Int)),(iv (BN rules m.Rule))]) 2 OJ Y Y Y Y Y Y (AB Y (AB a9 (AB aa (AB Y (AB u (AB Y (AB Y BR))))))) (by simp) Y ?_));refine tZ Y (tW 19 Y Y Y (tE (Xt (Ct (AG [1,0,2,3] Y (BB (α:=ByteArray) (β:=(List Fact)×(List Pair)) (c1:=[(.string m.Rule)]) (c2:=[v32,v33]) (x:=m.Rule) (y:=(m.Facts,m.Binding)) Y Y (BZ [] 1 Y (BB (α:=(List Fact)) (β:=(List Pair)) (c1:=[v32]) (c2:=[v33]) (x:=m.Facts) (y:=(m.Binding)) Y Y (BZ [1] 0 Y (AG [1,0,2,3,4] Y (FO (r:=(⟨m,r0.Priority,BJ l m.Facts,(GD r0:Int),(BN rules m.Rule)⟩:Choice)) (AX true (AG [1,0,2,3] Y (DL Y (zH (cs:=[(.string m.Rule),v32,v33,(iv r0.Priority),v36,(iv (GD r0:Int)),(iv (BN rules m.Rule))]) 2 IM Y Y) (D8 Y) λw' hs=>AY (c1:=[(.string m.Rule),v32,v33,(iv r0.Priority),v36,(iv (GD r0:Int)),(iv (BN rules m.Rule))]) (c2:=[(.bool true)]) hs ?_ ?_))))))))))))))
    ·show((⟨m,r0.Priority,BJ l m.Facts,(GD r0:Int),(BN rules m.Rule)⟩:Choice):Choice)=FU rules l m;exact(gM (sN (by omega) (λi h=>hi i (by omega))) d).1
    ·show(true:Bool)=KG rules l m;exact(gM (sN (by omega) (λi h=>hi i (by omega))) d).2
theorem WG{w:World}{b:Value}{rules:(List Rule)}{o:Value}{l:(List Stamp)}{p:List Value}{m:Match}(a:Gd.rd w [b] rules)(i:Gd.rd w [o] l)(q:Gd.rd w p m)(hn:DD BG rules<=1048576)(hm:DJ m<=1048576)(hl:DD CM l<=1048576)(ho:LR H9 rules)(a3:LR MA l):Cy 138 [b,o,(.agg p.toArray)] w (O8 w (CW rules l m:Choice) (G9 rules l m:Bool)):=by
 have ab:=rM a;have ac:=rM i;obtain⟨u3,u5,rfl,s,a4⟩:=FG q;have ad:=rM s;have ae:=rM a4;have a5:=hm;unfold DJ DD at hm;have hfl:=QI rules m.Rule;have af:=hn;unfold DD at hn;refine enter 50 Tryz.func138 Y Y Y (Sr (bX Y λg9=>?_));refine aL PE Y λg10=>?_
 refine Pe Y (Dh ([bx g10 [(.string ⟨#[]⟩),(.slice none 0 0),(.slice none 0 0),(iv 0),(.slice none 0 0),(iv 0),(iv 0)],bx g9 [(.string m.Rule),u3,u5]]) Y (Sr (p1 Y (fl 1 LA BK Y (qv pX Y (λw' hs=>(LE (rA hs a))) (Pe Y (Sr (p1 Y (fl 1 HN HK Y (ql A4L Y (λw' hs=>(Z4 (rA hs i) (rA hs s) (by omega))) λd=>?_))))))))));refine Pe Y (Dh ([ov [d] (BJ l m.Facts:(List Int)),_,_]) Y (Cq (Sr (p1 Y (qv A1X Y (λw' hs=>(LF (rA hs a) ‹_› ho)) (P2 Y Y (JQ 21 Y Y (λt=>?_) (λt=>?_))))))))
 ·refine n1 Y (n1 Y (n1 Y (P2 Y Y (n1 Y (n1 Y (P2 Y Y (n1 Y (n1 Y (Pe Y (AH [0,5,6,8,9,33] Y (GF Y (Sr (q1 Y (FY (vs:=[]) (cs:=[(.string ⟨#[]⟩),(.slice none 0 0),(.slice none 0 0),(iv 0),(.slice none 0 0),(iv 0),(iv 0)]) Y (λ_=>by kernel_rfl) Y) (li Y (AZ (vs:=[(.string ⟨#[]⟩),(.slice none 0 0),(.slice none 0 0),(iv 0),(.slice none 0 0),(iv 0),(iv 0)]) (cs':=[(.string ⟨#[]⟩),(.slice none 0 0),(.slice none 0 0),(iv 0),(.slice none 0 0),(iv 0),(iv 0)]) 1 OJ Y Y Y Y Y Y (AB Y (AB Y (AB Y (AB Y (AB Y (AB Y (AB Y BR))))))) (by simp) Y ?_)))))))))))))));refine Pe Y (Ct (Xr (CG (α:=Fact) (CG (α:=Pair) (CG (α:=Int) (AG [2,1,0,3,4,5] Y (FO (r:=(⟨⟨⟨#[]⟩,[],[]⟩,0,[],0,0⟩:Choice)) (AX false (AG [1,0,2,3,4] Y (DL Y (zH (cs:=[(.string ⟨#[]⟩),(.slice none 0 0),(.slice none 0 0),(iv 0),(.slice none 0 0),(iv 0),(iv 0)]) 3 IM Y Y) (D8 Y) λw' hs=>AY (c1:=[(.string ⟨#[]⟩),(.slice none 0 0),(.slice none 0 0),(iv 0),(.slice none 0 0),(iv 0),(iv 0)]) (c2:=[(.bool false)]) hs ?_ ?_))))))))))
  ·show((⟨⟨⟨#[]⟩,[],[]⟩,0,[],0,0⟩:Choice):Choice)=CW rules l m;exact(PN (.inl ‹_›)).1
  ·show(false:Bool)=G9 rules l m;exact(PN (.inl ‹_›)).2
 ·refine p1 Y (qv A4M Y (λw' hs=>(OX (rA hs i) ‹_› a3)) (P3 Y Y Y (JQ 26 Y Y (λu=>?_) (λu=>?_))))
  ·refine n1 Y (n1 Y (P2 Y Y (n1 Y (n1 Y (Pe Y (AH [0,5,6,8,9,33] Y (GF Y (Sr (q1 Y (FY (vs:=[]) (cs:=[(.string ⟨#[]⟩),(.slice none 0 0),(.slice none 0 0),(iv 0),(.slice none 0 0),(iv 0),(iv 0)]) Y (λ_=>by kernel_rfl) Y) (li Y (AZ (vs:=[(.string ⟨#[]⟩),(.slice none 0 0),(.slice none 0 0),(iv 0),(.slice none 0 0),(iv 0),(iv 0)]) (cs':=[(.string ⟨#[]⟩),(.slice none 0 0),(.slice none 0 0),(iv 0),(.slice none 0 0),(iv 0),(iv 0)]) 1 OJ Y Y Y Y Y Y (AB Y (AB Y (AB Y (AB Y (AB Y (AB Y (AB Y BR))))))) (by simp) Y ?_)))))))))));refine Pe Y (Ct (Xr (CG (α:=Fact) (CG (α:=Pair) (CG (α:=Int) (AG [2,1,0,3,4,5] Y (FO (r:=(⟨⟨⟨#[]⟩,[],[]⟩,0,[],0,0⟩:Choice)) (AX false (AG [1,0,2,3,4] Y (DL Y (zH (cs:=[(.string ⟨#[]⟩),(.slice none 0 0),(.slice none 0 0),(iv 0),(.slice none 0 0),(iv 0),(iv 0)]) 3 IM Y Y) (D8 Y) λw' hs=>AY (c1:=[(.string ⟨#[]⟩),(.slice none 0 0),(.slice none 0 0),(iv 0),(.slice none 0 0),(iv 0),(iv 0)]) (c2:=[(.bool false)]) hs ?_ ?_))))))))))
   ·show((⟨⟨⟨#[]⟩,[],[]⟩,0,[],0,0⟩:Choice):Choice)=CW rules l m;exact(PN (.inr (.inl ‹_›))).1
   ·show(false:Bool)=G9 rules l m;exact(PN (.inr (.inl ‹_›))).2
  ·refine P3 Y Y Y (p1 Y (EY 30 Y Y (λv=>?_) (λv=>?_)))
   ·refine n1 Y (n1 Y (Pe Y (AH [0,5,6,8,9,33] Y (GF Y (Sr (q1 Y (FY (vs:=[]) (cs:=[(.string ⟨#[]⟩),(.slice none 0 0),(.slice none 0 0),(iv 0),(.slice none 0 0),(iv 0),(iv 0)]) Y (λ_=>by kernel_rfl) Y) (li Y (AZ (vs:=[(.string ⟨#[]⟩),(.slice none 0 0),(.slice none 0 0),(iv 0),(.slice none 0 0),(iv 0),(iv 0)]) (cs':=[(.string ⟨#[]⟩),(.slice none 0 0),(.slice none 0 0),(iv 0),(.slice none 0 0),(iv 0),(iv 0)]) 1 OJ Y Y Y Y Y Y (AB Y (AB Y (AB Y (AB Y (AB Y (AB Y (AB Y BR))))))) (by simp) Y ?_))))))));refine Pe Y (Ct (Xr (CG (α:=Fact) (CG (α:=Pair) (CG (α:=Int) (AG [2,1,0,3,4,5] Y (FO (r:=(⟨⟨⟨#[]⟩,[],[]⟩,0,[],0,0⟩:Choice)) (AX false (AG [1,0,2,3,4] Y (DL Y (zH (cs:=[(.string ⟨#[]⟩),(.slice none 0 0),(.slice none 0 0),(iv 0),(.slice none 0 0),(iv 0),(iv 0)]) 3 IM Y Y) (D8 Y) λw' hs=>AY (c1:=[(.string ⟨#[]⟩),(.slice none 0 0),(.slice none 0 0),(iv 0),(.slice none 0 0),(iv 0),(iv 0)]) (c2:=[(.bool false)]) hs ?_ ?_))))))))))
    ·show((⟨⟨⟨#[]⟩,[],[]⟩,0,[],0,0⟩:Choice):Choice)=CW rules l m;exact(PN (.inr (.inr (ZM (by omega))))).1
    ·show(false:Bool)=G9 rules l m;exact(PN (.inr (.inr (ZM (by omega))))).2
   ·refine p1 Y (qv A4N Y (λw' hs=>(gT (rO (k:=0) hs Y))) (Pe Y (AH [0,5,6,8,9,33] Y (Ci _ Y (λa6=>?_) (λa6=>?_)))))
    ·refine Sr (q1 Y (FY (vs:=[]) (cs:=[(.string ⟨#[]⟩),(.slice none 0 0),(.slice none 0 0),(iv 0),(.slice none 0 0),(iv 0),(iv 0)]) Y (λ_=>by kernel_rfl) Y) (li Y (AZ (vs:=[(.string ⟨#[]⟩),(.slice none 0 0),(.slice none 0 0),(iv 0),(.slice none 0 0),(iv 0),(iv 0)]) (cs':=[(.string ⟨#[]⟩),(.slice none 0 0),(.slice none 0 0),(iv 0),(.slice none 0 0),(iv 0),(iv 0)]) 1 OJ Y Y Y Y Y Y (AB Y (AB Y (AB Y (AB Y (AB Y (AB Y (AB Y BR))))))) (by simp) Y ?_)));refine Pe Y (Ct (Xr (CG (α:=Fact) (CG (α:=Pair) (CG (α:=Int) (AG [2,1,0,3,4,5] Y (FO (r:=(⟨⟨⟨#[]⟩,[],[]⟩,0,[],0,0⟩:Choice)) (AX false (AG [1,0,2,3,4] Y (DL Y (zH (cs:=[(.string ⟨#[]⟩),(.slice none 0 0),(.slice none 0 0),(iv 0),(.slice none 0 0),(iv 0),(iv 0)]) 3 IM Y Y) (D8 Y) λw' hs=>AY (c1:=[(.string ⟨#[]⟩),(.slice none 0 0),(.slice none 0 0),(iv 0),(.slice none 0 0),(iv 0),(iv 0)]) (c2:=[(.bool false)]) hs ?_ ?_))))))))))
     ·show((⟨⟨⟨#[]⟩,[],[]⟩,0,[],0,0⟩:Choice):Choice)=CW rules l m;exact(sP ‹_› ‹_›).1
     ·show(false:Bool)=G9 rules l m;exact(sP ‹_› ‹_›).2
    ·refine Sk (Cq (A0 mixed [15,16] (by kernel_rfl) (Tk 0 Y Y (C9 2 TV Y Y Y) (tK 14 [2,3] Y ?_))));obtain⟨r0,e⟩:=sI rules ((BN rules m.Rule).toNat);have hrs:=C8 (c:=BG) (List.mem_of_getElem? e);obtain⟨a7,f,g⟩:=AC (n:=4) rfl a e;obtain⟨ag,ah,rfl,z,a0⟩:=BC g;have a8:=rM z;have a9:=rM a0;refine Tk 4 Y Y (AJ (l:=rules) (j:=((BN rules m.Rule).toNat)) HD Y Y Y (λw' hs=>(rA hs a)) (Int.toNat_of_nonneg (by omega)).symm (lS e)) (Tk 5 Y Y (B2 L4 Y Y) (Tk 6 Y Y (lr CJ Y Y f Y) (tK 8 [7,8,9] Y (Tk 10 Y Y (AJ (l:=rules) (j:=((BN rules m.Rule).toNat)) HD Y Y Y (λw' hs=>(rA hs a)) (Int.toNat_of_nonneg (by omega)).symm (lS e)) (Tk 11 Y Y (EX I7 Y Y f) (tR 13 Y Y (ty 1 Y Y (zE Y A0R Y Y Y Y (λw' hs=>(QR (rA hs q) a5)) λaa=>?_))))))));refine Dp (λw' hs=>KT (rO (k:=0) hs Y)) ?_;rintro⟨v26,v27,rfl,a1,a2⟩;refine tS (λ_ hs=>hs.pk [1,2,3] Y Y) (ty 12 Y Y (cv A4O Y Y Y Y (λw' hs=>(RP (rA hs g) (by omega) (ho _ (List.mem_of_getElem? e)))) ?_));refine tS (λ_ hs=>hs.pk [1,2,3] Y Y) (Dp (λw' hs=>CZ (k:=1) hs Y) ?_);intro h;refine Tj 14 Y Y (λ_ hs=>hs.pk [1,2,3] Y Y) (FJ (vs:=[(0,(.agg #[(.string m.Rule),v26,v27])),(1,(iv r0.Priority)),(2,d),(3,(iv (GD r0:Int))),(4,(iv (BN rules m.Rule)))]) (xs:=[(0,[(.string m.Rule),v26,v27]),(1,[(iv r0.Priority)]),(2,[d]),(3,[(iv (GD r0:Int))]),(4,[(iv (BN rules m.Rule))])]) (cs:=[(.string m.Rule),v26,v27,(iv r0.Priority),d,(iv (GD r0:Int)),(iv (BN rules m.Rule))]) jB Y ⟨Y,Y,⟨Y,Y,⟨Y,(AO h),⟨Y,Y,⟨Y,Y,trivial⟩⟩⟩⟩⟩ Y Y) (ty 15 Y Y (AZ (vs:=[(.string m.Rule),v26,v27,(iv r0.Priority),d,(iv (GD r0:Int)),(iv (BN rules m.Rule))]) (cs':=[(.string m.Rule),v26,v27,(iv r0.Priority),d,(iv (GD r0:Int)),(iv (BN rules m.Rule))]) 2 OJ Y Y Y Y Y Y (AB Y (AB a1 (AB a2 (AB Y (AB h (AB Y (AB Y BR))))))) (by simp) Y ?_));refine tZ Y (tW 16 Y Y Y (tE (Xt (Ct (BB (α:=ByteArray) (β:=(List Fact)×(List Pair)) (c1:=[(.string m.Rule)]) (c2:=[v26,v27]) (x:=m.Rule) (y:=(m.Facts,m.Binding)) Y Y (BZ [] 1 Y (BB (α:=(List Fact)) (β:=(List Pair)) (c1:=[v26]) (c2:=[v27]) (x:=m.Facts) (y:=(m.Binding)) Y Y (BZ [1] 0 Y (AG [1,0,2,3,4] Y (FO (r:=(⟨m,r0.Priority,BJ l m.Facts,(GD r0:Int),(BN rules m.Rule)⟩:Choice)) (AX true (AG [1,0,2,3] Y (DL Y (zH (cs:=[(.string m.Rule),v26,v27,(iv r0.Priority),d,(iv (GD r0:Int)),(iv (BN rules m.Rule))]) 2 IM Y Y) (D8 Y) λw' hs=>AY (c1:=[(.string m.Rule),v26,v27,(iv r0.Priority),d,(iv (GD r0:Int)),(iv (BN rules m.Rule))]) (c2:=[(.bool true)]) hs ?_ ?_)))))))))))))
     ·show((⟨m,r0.Priority,BJ l m.Facts,(GD r0:Int),(BN rules m.Rule)⟩:Choice):Choice)=CW rules l m;exact(sO ‹_› ‹_› (by omega) ‹_› e).1
     ·show(true:Bool)=G9 rules l m;exact(sO ‹_› ‹_› (by omega) ‹_› e).2
end Go.Sy.Cho2
