/-
  Contracts of functions of the program, walked (printed by a program of ours).
  Conditions: those that each theorem states.
-/
import Derived.Test.YtbnpgdcpbmaebaaGreatDoorFct
import Derived.Test.YtbnpgdcpbmaebaaGreatDoorEng3
import Derived.Test.YtbnpgdcpbmaebaaGreatDoorEng
import Derived.Test.YtbnpgdcpbmaebaaGreatDoorRul
import Derived.Test.YtbnpgdcpbmaebaaGreatDoorPdqs
import Derived.Test.YtbnpgdcpbmaebaaGreatDoorNum2
import Derived.Test.YtbnpgdcpbmaebaaGreatDoorCho
import Derived.Test.YtbnpgdcpbmaebaaGreatDoorFal2
set_option linter.unusedVariables false
set_option maxRecDepth 20000
namespace Go.Sy.Cho2
open Go Go.RowKit Go.Proofs Go.Sy
open Go.Sy.Bel1 Go.Sy.Ev1 Go.Sy.Ev3 Go.Sy.Fmt1 Go.Sy.Eng1 Go.Sy.Eng2 Go.Sy.Eng3 Go.Sy.Num1 Go.Sy.Num2 Go.Sy.Fal2
theorem gT{w:World}{c:Value}{l:(List Int)}{x:Int}(a:Gd.rd w [c] l):Cy 147 [c,(iv x)] w (Val w (.bool (l.contains x))):=by
 have p:=rM a;refine enter 18 Tryz.func147 Y Y Y (Sr (Pe Y (Cq (Sr (Pe Y (Cb (Cl (λm_ ac w'=>∃(k:Nat),(k<=l.length)/\(∀i,i<k->l[i]?≠some x)/\m_=l.length-k/\Fits ac 18 [(0,c),(1,(iv x)),(5,(nv k))]/\St w ([]) w') ?_ ?_)))))))
 ·refine λac w' hf hs=>⟨_,0,?_,?_,Y,hf.wk Y,hs⟩
  ·omega
  ·intro i hi;omega
 ·rintro m_ ac w' ⟨k,hk,hi,rfl,hf,hs⟩;refine D.use ?_ hf hs;clear hf hs ac w';refine Cq (Sr (P2 Y Y (dl AU Y (AE a) (Pe Y (Cd Y (λd=>?_) (λd=>?_))))))
  ·refine Sk (Cq (Cb (Sr (P2 Y Y ?_))));obtain⟨q,b⟩:=sI l k;obtain⟨f,g,m⟩:=AC (n:=1) rfl a b;obtain rfl:f=[.int .i64 q]:=m;refine q1 Y (AJ (l:=l) (j:=k) AU Y Y Y (λw' hs=>(rA hs a)) Y (lS b)) (q1 Y (HI CJ Y Y g Y) (P2 Y Y (Dx (Ce Y (λo=>?_) (λo=>?_)))))
   ·refine Sr (Pe Y (Ct (Xq (Xr (Xr (Xq (Xr (Rb Y Y ?_))))))));exact A2D b (by omega)
   ·refine Ck (Xb (Xt (Cr (p1 Y (ad (k+1) Y (Pe Y (λac w' hf hs=>⟨_,?_,k+1,?_,?_,Y,hf.wk Y,hs⟩)))))))
    ·omega
    ·omega
    ·refine AF hi ?_;intro e;have:=b.symm.trans e;simp only[Option.some.injEq] at this;omega
  ·refine Cx (Xx (Xx (Xe (Xt (Sr (Pe Y (Ct (Rb Y Y ?_))))))));exact A2E (λi h=>hi i (by omega))
theorem NT{w:World}{d:Value}{l:(List Fact)}(a:Gd.rd w [d] l)(q:DD F9 l<=1048576):Cy 183 [d] w (HH w (l:List Fact)):=by
 have r:=rM a;unfold DD at q;refine enter 19 Tryz.func183 Y Y Y (Sr (Pe Y (Sr (Pe Y (Cq (Sr (p1 Y (dl C4N Y (AE a) (Pe Y (Cb (Cl (λm_ ac w'=>∃(k:Nat),∃(v:Value),(k<=l.length)/\m_=l.length-k/\Fits ac 19 [(3,v),(6,d),(7,(nv l.length)),(8,(nv k))]/\St w ([ov [v] (l.take k:(List Fact))]) w') ?_ ?_)))))))))))
 ·refine CG (α:=Fact) (A3 0 Y (show([]:(List Fact))=l.take 0 from by simp) (λac w' hf hs=>⟨_,0,(.slice none 0 0),?_,Y,hf.wk Y,hs⟩))
  ·omega
 ·rintro m_ ac w' ⟨k,v,hk,rfl,hf,hs⟩;refine D.use ?_ hf hs;clear hf hs ac w';have hcl:(l.take k).length<=k:=by rw[List.length_take];omega
  refine Sr (Pe Y (Dh ([_]) Y (Cq (Cd Y (λi=>?_) (λi=>?_)))))
  ·refine Sk (Cq (Cb (Sr ?_)));obtain⟨e,b⟩:=sI l k;have hle:=C8 (c:=F9) (List.mem_of_getElem? b);obtain⟨s,at4,f⟩:=AC (n:=2) rfl a b;obtain⟨m,rfl,g⟩:=AS f;have t:=rM g;refine q1 Y (AJ (l:=l) (j:=k) C4N Y Y Y (λw' hs=>(rA hs a)) Y (lS b)) (q1 Y (EX B4Z Y Y at4) (aL B4n Y λg9=>?_));refine li Y (AZ (vs:=[(.string e.Rel),m]) (cs':=[(.string e.Rel),m]) 0 B5j Y Y Y Y Y Y (AB Y (AB (A2 g) BR)) (by simp) Y ?_);refine Dx (Dh ([bx g9 [(.string e.Rel),m],_]) Y (Cr (p1 Y (q1 Y (C9 0 B4Z Y Y Y) (qs Y B2w Y (λw' hs=>(I1 (rA hs f) (by omega))) λo=>?_)))));refine Dp (λw' hs=>EZ (rO (k:=0) hs Y)) ?_;rintro⟨u,rfl,p⟩;refine li Y (FF C4N B4n Y (by decide) (by decide) Y Y Y Y Y Y λg13=>?_);refine AG [3,1,0,2] Y (li Y (GZ C4N B4n Y (by decide) Y Y Y Y Y Y (by omega) (by omega) λh=>?_));refine p1 Y (De (Xb (Xt (Dh ([ov [h] ((l.take k)++ [e]:(List Fact)),_]) Y (Cr (ad (k+1) Y (Pe Y (A3 0 Y (show((l.take k)++ [e]:(List Fact))=l.take (k+1) from by exact(A1 b).symm) (λac w' hf hs=>⟨_,?_,k+1,h,?_,Y,hf.wk Y,hs.pk [0] Y Y⟩)))))))))
   ·omega
   ·omega
  ·refine Cx (Xx (Xx (Xe (Xt (Sr (P2 Y Y (Dx (Ct (FV Y Y λw' hs=>A7 (k:=0) hs Y ?_)))))))));show l.take k=l;rw[List.take_of_length_le (by omega)]
theorem LK{w:World}{d:Value}{l:(List Fact)}(a:Gd.rd w [d] l)(q:DD F9 l<=1048576):Cy 195 [d] w (HH w (l:List Fact)):=by
 have r:=rM a;unfold DD at q;refine enter 21 Tryz.func195 Y Y Y (Sr (Pe Y (Sr (li Y (FL (α:=Fact) C4N Y Y Y λv2=>?_)))));refine Pe Y (Dh ([ov [v2] ([]:(List Fact))]) Y (Cq (Sr (Pe Y (Cb (Cl (λm_ ac w'=>∃(k:Nat),∃(v:Value),(k<=l.length)/\m_=l.length-k/\Fits ac 21 [(0,d),(3,v),(4,(nv k))]/\St w ([ov [v] (l.take k:(List Fact))]) w') ?_ ?_))))))
 ·refine A3 0 Y (show([]:(List Fact))=l.take 0 from by simp) (λac w' hf hs=>⟨_,0,v2,?_,Y,hf.wk Y,hs⟩)
  ·omega
 ·rintro m_ ac w' ⟨k,v,hk,rfl,hf,hs⟩;refine D.use ?_ hf hs;clear hf hs ac w';have hcl:(l.take k).length<=k:=by rw[List.length_take];omega
  refine Cq (Sr (P2 Y Y (dl C4N Y (AE a) (Pe Y (Dh ([_]) Y (Cd Y (λg=>?_) (λg=>?_)))))))
  ·refine Sk (Cq (Cb (Cr (P3 Y Y Y ?_))));obtain⟨m,b⟩:=sI l k;have hle:=C8 (c:=F9) (List.mem_of_getElem? b);obtain⟨s,h,e⟩:=AC (n:=2) rfl a b;obtain⟨x,rfl,i⟩:=AS e;have t:=rM i;refine q1 Y (AJ (l:=l) (j:=k) C4N Y Y Y (λw' hs=>(rA hs a)) Y (lS b)) (q1 Y (EX B4Z Y Y h) (qs Y pX Y (λw' hs=>(K4 (rA hs e) (by omega))) λo=>?_));refine Dp (λw' hs=>EZ (rO (k:=0) hs Y)) ?_;rintro⟨u,rfl,p⟩;refine li Y (FF C4N B4n Y (by decide) (by decide) Y Y Y Y Y Y λg13=>?_);refine AG [2,1,0] Y (li Y (GZ C4N B4n Y (by decide) Y Y Y Y Y Y (by omega) (by omega) λf=>?_));refine p1 Y (De (Xb (Xt (Dh ([ov [f] ((l.take k)++ [m]:(List Fact))]) Y (Cr (p1 Y (ad (k+1) Y (Pe Y (A3 0 Y (show((l.take k)++ [m]:(List Fact))=l.take (k+1) from by exact(A1 b).symm) (λac w' hf hs=>⟨_,?_,k+1,f,?_,Y,hf.wk Y,hs⟩))))))))))
   ·omega
   ·omega
  ·refine Cx (Xx (Xx (Xe (Xt (Sr (P2 Y Y (Dx (Ct (FV Y Y λw' hs=>A7 (k:=0) hs Y ?_)))))))));show l.take k=l;rw[List.take_of_length_le (by omega)]
theorem KJ{w:World}{a:Value}{b:(List Pair)}(c:Gd.rd w [a] b)(e:b.length<=1048576):Cy 185 [a] w (HH w (b:List Pair)):=by
 have d:=rM c;refine enter 5 Tryz.func185 Y Y Y (Sr (Pe Y (Sr (p1 Y (CG (α:=Pair) (li Y (sH (α:=Pair) (ys:=b) C4h B4s Y (by decide) Y Y Y Y Y Y (λw' hs=>(rA hs c)) (by simp;omega) (by simp;omega) λv2=>?_)))))));refine Pe Y (Ct (FV Y Y λw' hs=>A7 (k:=0) hs Y ?_));show([])++b=b;rfl
theorem K6{w:World}{a:Value}{b:(List Pair)}(c:Gd.rd w [a] b)(e:b.length<=1048576):Cy 196 [a] w (HH w (b:List Pair)):=by
 have d:=rM c;refine enter 6 Tryz.func196 Y Y Y (Sr (Pe Y (Sr (li Y (FL (α:=Pair) C4h Y Y Y λv2=>?_)))));refine p1 Y (li Y (sH (α:=Pair) (ys:=b) C4h B4s Y (by decide) Y Y Y Y Y Y (λw' hs=>(rA hs c)) (by simp;omega) (by simp;omega) λv3=>?_));refine Pe Y (Ct (FV Y Y λw' hs=>A7 (k:=0) hs Y ?_));show([])++b=b;rfl
theorem NU{w:World}{d:List Value}{m:Match}(g:Gd.rd w d m)(h:DJ m<=1048576):Cy 143 [(.agg d.toArray)] w (HH w (m:Match)):=by
 obtain⟨i,j,rfl,e,f⟩:=FG g;have l:=rM e;have n:=rM f;unfold DJ at h;have hbl:DD KE m.Binding=m.Binding.length+AI KE m.Binding:=rfl;refine enter 12 Tryz.func143 Y Y Y (Sr (bX Y λg7=>?_));refine aL B9c Y λg8=>?_
 refine Dx (Dh ([bx g8 [(.string ⟨#[]⟩),(.slice none 0 0),(.slice none 0 0)],bx g7 [(.string m.Rule),i,j]]) Y (Cq (A0 mixed [9] (by kernel_rfl) (Tk 0 Y Y (Db C0J Y Y (q:=0) Y) (Tk 1 Y Y (lb 1 BK Y Y Y Y) (Tk 2 Y Y (Db B7j Y Y (q:=1) Y) (Tk 3 Y Y (lb 1 B7Y Y Y Y Y) (Tk 5 Y Y (Db B8n Y Y (q:=2) Y) (Tk 6 Y Y (lb 1 B7K Y Y Y Y) (ty 4 Y Y (YJ A3G Y Y Y Y (λw' hs=>(NT (rA hs e) (by omega))) λv9=>?_)))))))))));refine tS (λ_ hs=>hs.pk [1,2] Y Y) (ty 7 Y Y (YJ zN Y Y Y Y (λw' hs=>(KJ (rA hs f) (by omega))) λa=>?_));refine tS (λ_ hs=>hs.pk [2,3] Y Y) (Dp (λw' hs=>CZ (k:=1) hs Y) ?_);intro b;refine Dp (λw' hs=>CZ (k:=0) hs Y) ?_;intro c;refine Tj 8 Y Y (λ_ hs=>hs.pk [2,3] Y Y) (FJ (vs:=[(0,(.string m.Rule)),(1,v9),(2,a)]) (xs:=[(0,[(.string m.Rule)]),(1,[v9]),(2,[a])]) (cs:=[(.string m.Rule),v9,a]) B9x Y ⟨Y,Y,⟨Y,(AO b),⟨Y,(AO c),trivial⟩⟩⟩ Y Y) (ty 9 Y Y (AZ (vs:=[(.string m.Rule),v9,a]) (cs':=[(.string m.Rule),v9,a]) 2 C3g Y Y Y Y Y Y (AB Y (AB b (AB c BR))) (by simp) Y ?_));refine tZ Y (tE (Xt (Ct (AG [1,0,2,3] Y (aV (r:=(m:Match)) (eW 1 C2y Y Y Y λw' hs=>A7 (k:=0) hs Y ?_))))));show(m:Match)=m;rfl
theorem QR{w:World}{d:List Value}{m:Match}(g:Gd.rd w d m)(h:DJ m<=1048576):Cy 148 [(.agg d.toArray)] w (HH w (m:Match)):=by
 obtain⟨i,j,rfl,e,f⟩:=FG g;have l:=rM e;have n:=rM f;unfold DJ at h;have hbl:DD KE m.Binding=m.Binding.length+AI KE m.Binding:=rfl;refine enter 12 Tryz.func148 Y Y Y (Sr (bX Y λg7=>?_));refine aL B9c Y λg8=>?_
 refine Dx (Dh ([bx g8 [(.string ⟨#[]⟩),(.slice none 0 0),(.slice none 0 0)],bx g7 [(.string m.Rule),i,j]]) Y (Cq (A0 mixed [9] (by kernel_rfl) (Tk 0 Y Y (Db C0J Y Y (q:=0) Y) (Tk 1 Y Y (lb 1 BK Y Y Y Y) (Tk 2 Y Y (Db B7j Y Y (q:=1) Y) (Tk 3 Y Y (lb 1 B7Y Y Y Y Y) (Tk 5 Y Y (Db B8n Y Y (q:=2) Y) (Tk 6 Y Y (lb 1 B7K Y Y Y Y) (ty 4 Y Y (YJ A4q Y Y Y Y (λw' hs=>(LK (rA hs e) (by omega))) λv9=>?_)))))))))));refine tS (λ_ hs=>hs.pk [1,2] Y Y) (ty 7 Y Y (YJ A3v Y Y Y Y (λw' hs=>(K6 (rA hs f) (by omega))) λa=>?_));refine tS (λ_ hs=>hs.pk [2,3] Y Y) (Dp (λw' hs=>CZ (k:=1) hs Y) ?_);intro b;refine Dp (λw' hs=>CZ (k:=0) hs Y) ?_;intro c;refine Tj 8 Y Y (λ_ hs=>hs.pk [2,3] Y Y) (FJ (vs:=[(0,(.string m.Rule)),(1,v9),(2,a)]) (xs:=[(0,[(.string m.Rule)]),(1,[v9]),(2,[a])]) (cs:=[(.string m.Rule),v9,a]) B9x Y ⟨Y,Y,⟨Y,(AO b),⟨Y,(AO c),trivial⟩⟩⟩ Y Y) (ty 9 Y Y (AZ (vs:=[(.string m.Rule),v9,a]) (cs':=[(.string m.Rule),v9,a]) 2 C3g Y Y Y Y Y Y (AB Y (AB b (AB c BR))) (by simp) Y ?_));refine tZ Y (tE (Xt (Ct (AG [1,0,2,3] Y (aV (r:=(m:Match)) (eW 1 C2y Y Y Y λw' hs=>A7 (k:=0) hs Y ?_))))));show(m:Match)=m;rfl
theorem dU{w:World}{c:Value}{l:(List Stamp)}{d:List Value}{f:Fact}(a:Gd.rd w [c] l)(e:Gd.rd w d f):Cy 141 [c,(.agg d.toArray)] w (Val w (iv (GG l f))):=by
 have v:=rM a;obtain⟨s,rfl,p⟩:=AS e;have x:=rM p;refine enter 24 Tryz.func141 Y Y Y (Sr (bX Y λg5=>?_));refine Pe Y (Dh ([bx g5 [(.string f.Rel),s]]) Y (Cq (Sr (Pe Y (Cb (Cl (λm_ ac w'=>∃(k:Nat),(k<=l.length)/\(∀i,i<k->∀y,l[i]?=some y->y.Fact≠f)/\m_=l.length-k/\Fits ac 24 [(0,c),(3,(pv g5)),(5,(nv k))]/\St w ([bx g5 [(.string f.Rel),s]]) w') ?_ ?_))))))
 ·refine λac w' hf hs=>⟨_,0,?_,?_,Y,hf.wk Y,hs⟩
  ·omega
  ·intro i hi;omega
 ·rintro m_ ac w' ⟨k,hk,hi,rfl,hf,hs⟩;refine D.use ?_ hf hs;clear hf hs ac w';refine Cq (Sr (P2 Y Y (dl C1h Y (AE a) (Pe Y (Cd Y (λq=>?_) (λq=>?_))))))
  ·refine Sk (Cq (Cb (Cq (A0 mixed [6] (by kernel_rfl) (tK 5 [0,1] Y ?_)))));obtain⟨t,b⟩:=sI l k;obtain⟨z,at8,g⟩:=AC (n:=3) rfl a b;obtain⟨a0,rfl,m⟩:=B9 g;have u:=rM m;have o:=BE g;refine Tk 2 Y Y (AJ (l:=l) (j:=k) C1h Y Y Y (λw' hs=>(rA hs a)) Y (lS b)) (Tk 3 Y Y (B2 C1v Y Y) (Tk 4 Y Y (EX B4Z Y Y (Q1 (f:=0) (n:=2) at8 Y)) (Tk 5 Y Y (C9 0 B4Z Y Y Y) (ty 6 Y Y (cv L6 Y Y Y Y (λw' hs=>(cJ (rA hs o) (rA hs e))) ?_)))));refine tZ Y (tE (Xt (Ci _ Y (λr=>?_) (λr=>?_))))
   ·refine Sr (P2 Y Y (q1 Y (AJ (l:=l) (j:=k) C1h Y Y Y (λw' hs=>(rA hs a)) Y (lS b)) (q1 Y (B2 C1n Y Y) (q1 Y (lr CJ Y Y at8 Y) (Pe Y (Ct (Xq (Xr (Xr (Xq (Xr (Ri Y Y ?_))))))))))));show(t.Time:Int)=_;exact cW b (by simp_all) hi
   ·refine Ck (Xb (Xt (Cr (p1 Y (ad (k+1) Y (Pe Y (λac w' hf hs=>⟨_,?_,k+1,?_,?_,Y,hf.wk Y,hs⟩)))))))
    ·omega
    ·omega
    ·refine AF hi ?_;intro y hy;obtain rfl:y=t:=Option.some.inj (hy.symm.trans b);simp_all
  ·refine Cx (Xx (Xx (Xe (Xt (Sr (Pe Y (Ct (Ri Y Y ?_))))))));show(0:Int)=_;exact cX (λi h=>hi i (by omega))
theorem Z4{w:World}{c:Value}{l:(List Stamp)}{b:Value}{facts:(List Fact)}(e:Gd.rd w [c] l)(a:Gd.rd w [b] facts)(t:facts.length<=1048576):Cy 77 [c,b] w (HH w (BJ l facts:List Int)):=by
 have q:=rM e;have r:=rM a;refine enter 24 Tryz.func77 Y Y Y (Sr (Pe Y (Sr (li Y (FL (α:=Int) AU Y Y Y λv3=>?_)))));refine Pe Y (Dh ([ov [v3] ([]:(List Int))]) Y (Cq (Sr (Pe Y (Cb (Cl (λm_ ac w'=>∃(k:Nat),∃(v:Value),(k<=facts.length)/\m_=facts.length-k/\Fits ac 24 [(0,c),(1,b),(5,v),(6,(nv k))]/\St w ([ov [v] (BJ l (facts.take k):(List Int))]) w') ?_ ?_))))))
 ·refine A3 0 Y (show([]:(List Int))=BJ l (facts.take 0) from by exact XO l facts) (λac w' hf hs=>⟨_,0,v3,?_,Y,hf.wk Y,hs⟩)
  ·omega
 ·rintro m_ ac w' ⟨k,v,hk,rfl,hf,hs⟩;refine D.use ?_ hf hs;clear hf hs ac w';have hcl:=SL l facts k;refine Cq (Sr (P2 Y Y (dl C4N Y (AE a) (Pe Y (Dh ([_]) Y (Cd Y (λi=>?_) (λi=>?_)))))))
  ·refine Sk (Cq (Cb (Cr (P3 Y Y Y (p1 Y ?_)))));obtain⟨m,d⟩:=sI facts k;obtain⟨s,o,f⟩:=AC (n:=2) rfl a d;obtain⟨u,rfl,g⟩:=AS f;have p:=rM g;refine q1 Y (AJ (l:=facts) (j:=k) C4N Y Y Y (λw' hs=>(rA hs a)) Y (lS d)) (q1 Y (EX B4Z Y Y o) (qv zW Y (λw' hs=>(dU (rA hs e) (rA hs f))) (li Y (FF AU vH Y (by decide) (by decide) Y Y Y Y Y Y λg12=>?_))));refine O7 (GG l m) (AG [2,0,1] Y (li Y (GZ AU vH Y (by decide) Y Y Y Y Y Y (by omega) (by omega) λh=>?_)));refine p1 Y (De (Xb (Xt (Dh ([ov [h] ((BJ l (facts.take k))++ [(GG l m)]:(List Int))]) Y (Cr (p1 Y (ad (k+1) Y (Pe Y (A3 0 Y (show((BJ l (facts.take k))++ [(GG l m)]:(List Int))=BJ l (facts.take (k+1)) from by exact XN d) (λac w' hf hs=>⟨_,?_,k+1,h,?_,Y,hf.wk Y,hs⟩))))))))))
   ·omega
   ·omega
  ·refine Cx (Xx (Xx (Xe (Xt (Sr (P2 Y Y (Dx (Ct (FV Y Y λw' hs=>A7 (k:=0) hs Y ?_)))))))));show BJ l (facts.take k)=BJ l facts;rw[List.take_of_length_le (by omega)]
theorem RP{w:World}{m:List Value}{r:Rule}(u:Gd.rd w m r)(hn:BG r<=1048576)(ho:H9 r):Cy 149 [(.agg m.toArray)] w (Val w (iv ((GD r:Int)))):=by
 obtain⟨v,y,rfl,b,z⟩:=BC u;have a5:=rM b;have a6:=rM z;unfold BG DD at hn;refine enter 42 Tryz.func149 Y Y Y (Sr (bX Y λg7=>?_));refine Pe Y (Dh ([bx g7 [(.string r.Name),(iv r.Priority),v,y]]) Y (Sr (fl 0 A1T A3Z Y (dl lW Y (AE b) (Pe Y (Cq (Sr (Pe Y (Cb (Cl (λm_ ac w'=>∃(k:Nat),∃(c:Nat),(k<=r.If.length)/\(c=r.If.length+AI nS (r.If.take k))/\m_=r.If.length-k/\Fits ac 42 [(1,(pv g7)),(3,(nv c)),(4,(nv k))]/\St w ([bx g7 [(.string r.Name),(iv r.Priority),v,y]]) w') ?_ ?_))))))))))
 ·refine λac w' hf hs=>⟨_,0,r.If.length,?_,?_,Y,hf.wk Y,hs⟩
  ·omega
  ·simp[AI]
 ·rintro m_ ac w' ⟨k,c,hk,hc,rfl,hf,hs⟩;refine D.use ?_ hf hs;clear hf hs ac w';have a7:=cZ r.If k;have a8:=kD r.If;refine Cq (Sr (p1 Y (fl 0 A1T A3Z Y (dl lW Y (AE b) (Pe Y (Cd Y (λa1=>?_) (λa1=>?_)))))))
  ·refine Sk (Cq (Cb (Cq ?_)));obtain⟨g,e⟩:=sI r.If k;obtain⟨a9,h,i⟩:=AC (n:=5) rfl b e;obtain⟨aa,rfl,a⟩:=A8 i;have a3:=rM a;have a4:=AK i;refine Cr (Pe Y (Cb (Cl (λm_ ac w'=>∃(j:Nat),∃(d:Nat),(j<=g.Pattern.Args.length)/\(d=c+kB (g.Pattern.Args.take j))/\m_=g.Pattern.Args.length-j/\Fits ac 42 [(1,(pv g7)),(3,(nv d)),(4,(nv k)),(5,(nv j))]/\St w ([bx g7 [(.string r.Name),(iv r.Priority),v,y]]) w') ?_ ?_)))
   ·refine λac w' hf hs=>⟨_,0,c,?_,?_,Y,hf.wk Y,hs⟩
    ·omega
    ·simp[kB]
   ·rintro m_ ac w' ⟨j,d,hj,hd,rfl,hf,hs⟩;refine D.use ?_ hf hs;clear hf hs ac w';have ab:=gK (g.Pattern.Args.take j);have ae:(g.Pattern.Args.take j).length<=j:=by rw[List.length_take];omega
    have af:=BX g;have ag:=IX e;refine Cq (Sr (p1 Y (fl 0 A1T A3Z Y (p1 Y (q1 Y (AJ (l:=r.If) (j:=k) lW Y Y Y (λw' hs=>(rA hs b)) Y (lS e)) (q1 Y (B2 C4l Y Y) (q1 Y (JP C4R Y Y (q:=2) Y) (q1 Y (lr C4Q Y Y h Y) (dl C4D Y (AE a) (Pe Y (Cd Y (λo=>?_) (λo=>?_))))))))))))
    ·refine Sk (Cq (Cb (Sr (fl 0 A1T A3Z Y (p1 Y (q1 Y (AJ (l:=r.If) (j:=k) lW Y Y Y (λw' hs=>(rA hs b)) Y (lS e)) (q1 Y (B2 C4l Y Y) (q1 Y (JP C4R Y Y (q:=2) Y) (q1 Y (lr C4Q Y Y h Y) (p1 Y ?_))))))))));obtain⟨a0,f⟩:=sI g.Pattern.Args j;obtain⟨p,s,t⟩:=AC (n:=1) rfl a f;obtain rfl:p=[.string a0]:=t;refine q1 Y (AJ (l:=g.Pattern.Args) (j:=j) C4D Y Y Y (λw' hs=>(rA hs a)) Y (lS f)) (q1 Y (HI BK Y Y s Y) (qv A0R Y (λw' hs=>(FD ((ho.2.2.1 _ (List.mem_of_getElem? e)).2.1.2 _ (List.mem_of_getElem? f)))) (Dx (AH [1,3,4,5,38] Y (Ci _ Y (λa2=>?_) (λa2=>?_))))))
     ·refine Cr (p1 Y (ad (d+1) Y (p1 Y (De (Xb (Xt (Cr (p1 Y (ad (j+1) Y (Pe Y (λac w' hf hs=>⟨_,?_,j+1,d+1,?_,?_,Y,hf.wk Y,hs⟩)))))))))))
      ·omega
      ·omega
      ·have:=A0u f ‹_›;omega
     ·refine Ck (Xb (Xt (Cr (p1 Y (ad (j+1) Y (Pe Y (λac w' hf hs=>⟨_,?_,j+1,d,?_,?_,Y,hf.wk Y,hs⟩)))))))
      ·omega
      ·omega
      ·have:=A0v f ‹_›;omega
    ·refine Cx (Xx (Xx (Xe (Xb (Xt (Cr (p1 Y (ad (k+1) Y (Pe Y (λac w' hf hs=>⟨_,?_,k+1,d,?_,?_,Y,hf.wk Y,hs⟩))))))))))
     ·omega
     ·omega
     ·have hst:=G2 (c:=nS) e;have hse:=kC (x:=g) (k:=j) (by omega);omega
  ·refine Cx (Xx (Xx (Xe (Xt (Sr (P2 Y Y (Dx (Ct (Ri Y Y ?_)))))))));show(((c:Nat):Int):Int)=_;unfold GD;rw[List.take_of_length_le (by omega)] at hc;omega
theorem WG{w:World}{d:Value}{a:(List Rule)}{p:Value}{l:(List Stamp)}{q:List Value}{m:Match}(b:Gd.rd w [d] a)(o:Gd.rd w [p] l)(s:Gd.rd w q m)(hn:DD BG a<=1048576)(hm:DJ m<=1048576)(hl:DD CM l<=1048576)(ho:LR H9 a)(a4:LR MA l):Cy 84 [d,p,(.agg q.toArray)] w (O8 w (CW a l m:Choice) (G9 a l m:Bool)):=by
 have ac:=rM b;have ad:=rM o;obtain⟨u3,u5,rfl,t,a5⟩:=FG s;have ae:=rM t;have af:=rM a5;have a6:=hm;unfold DJ DD at hm;have hfl:=QI a m.Rule;have ag:=hn;unfold DD at hn;refine enter 50 Tryz.func84 Y Y Y (Sr (bX Y λg9=>?_));refine aL I6 Y λg10=>?_
 refine Pe Y (Dh ([bx g10 [(.string ⟨#[]⟩),(.slice none 0 0),(.slice none 0 0),(iv 0),(.slice none 0 0),(iv 0),(iv 0)],bx g9 [(.string m.Rule),u3,u5]]) Y (Sr (p1 Y (fl 1 C0J BK Y (qv A1X Y (λw' hs=>(LE (rA hs b))) (Pe Y (Sr (p1 Y (fl 1 B7j B7Y Y (ql A6u Y (λw' hs=>(Z4 (rA hs o) (rA hs t) (by omega))) λe=>?_))))))))));refine Pe Y (Dh ([ov [e] (BJ l m.Facts:(List Int)),_,_]) Y (Cq (Sr (p1 Y (qv C3r Y (λw' hs=>(LF (rA hs b) ‹_› ho)) (P2 Y Y (JQ 21 Y Y (λu=>?_) (λu=>?_))))))))
 ·refine n1 Y (n1 Y (n1 Y (P2 Y Y (n1 Y (n1 Y (P2 Y Y (n1 Y (n1 Y (Pe Y (AH [0,5,6,8,9,33] Y (GF Y (Sr (q1 Y (FY (vs:=[]) (cs:=[(.string ⟨#[]⟩),(.slice none 0 0),(.slice none 0 0),(iv 0),(.slice none 0 0),(iv 0),(iv 0)]) Y (λ_=>by kernel_rfl) Y) (li Y (AZ (vs:=[(.string ⟨#[]⟩),(.slice none 0 0),(.slice none 0 0),(iv 0),(.slice none 0 0),(iv 0),(iv 0)]) (cs':=[(.string ⟨#[]⟩),(.slice none 0 0),(.slice none 0 0),(iv 0),(.slice none 0 0),(iv 0),(iv 0)]) 1 TP Y Y Y Y Y Y (AB Y (AB Y (AB Y (AB Y (AB Y (AB Y (AB Y BR))))))) (by simp) Y ?_)))))))))))))));refine Pe Y (Ct (Xr (CG (α:=Fact) (CG (α:=Pair) (CG (α:=Int) (AG [2,1,0,3,4,5] Y (FO (r:=(⟨⟨⟨#[]⟩,[],[]⟩,0,[],0,0⟩:Choice)) (AX false (AG [1,0,2,3,4] Y (DL Y (zH (cs:=[(.string ⟨#[]⟩),(.slice none 0 0),(.slice none 0 0),(iv 0),(.slice none 0 0),(iv 0),(iv 0)]) 3 C3 Y Y) (D8 Y) λw' hs=>AY (c1:=[(.string ⟨#[]⟩),(.slice none 0 0),(.slice none 0 0),(iv 0),(.slice none 0 0),(iv 0),(iv 0)]) (c2:=[(.bool false)]) hs ?_ ?_))))))))))
  ·show((⟨⟨⟨#[]⟩,[],[]⟩,0,[],0,0⟩:Choice):Choice)=CW a l m;exact(PN (.inl ‹_›)).1
  ·show(false:Bool)=G9 a l m;exact(PN (.inl ‹_›)).2
 ·refine p1 Y (qv A7L Y (λw' hs=>(OX (rA hs o) ‹_› a4)) (P3 Y Y Y (JQ 26 Y Y (λv=>?_) (λv=>?_))))
  ·refine n1 Y (n1 Y (P2 Y Y (n1 Y (n1 Y (Pe Y (AH [0,5,6,8,9,33] Y (GF Y (Sr (q1 Y (FY (vs:=[]) (cs:=[(.string ⟨#[]⟩),(.slice none 0 0),(.slice none 0 0),(iv 0),(.slice none 0 0),(iv 0),(iv 0)]) Y (λ_=>by kernel_rfl) Y) (li Y (AZ (vs:=[(.string ⟨#[]⟩),(.slice none 0 0),(.slice none 0 0),(iv 0),(.slice none 0 0),(iv 0),(iv 0)]) (cs':=[(.string ⟨#[]⟩),(.slice none 0 0),(.slice none 0 0),(iv 0),(.slice none 0 0),(iv 0),(iv 0)]) 1 TP Y Y Y Y Y Y (AB Y (AB Y (AB Y (AB Y (AB Y (AB Y (AB Y BR))))))) (by simp) Y ?_)))))))))));refine Pe Y (Ct (Xr (CG (α:=Fact) (CG (α:=Pair) (CG (α:=Int) (AG [2,1,0,3,4,5] Y (FO (r:=(⟨⟨⟨#[]⟩,[],[]⟩,0,[],0,0⟩:Choice)) (AX false (AG [1,0,2,3,4] Y (DL Y (zH (cs:=[(.string ⟨#[]⟩),(.slice none 0 0),(.slice none 0 0),(iv 0),(.slice none 0 0),(iv 0),(iv 0)]) 3 C3 Y Y) (D8 Y) λw' hs=>AY (c1:=[(.string ⟨#[]⟩),(.slice none 0 0),(.slice none 0 0),(iv 0),(.slice none 0 0),(iv 0),(iv 0)]) (c2:=[(.bool false)]) hs ?_ ?_))))))))))
   ·show((⟨⟨⟨#[]⟩,[],[]⟩,0,[],0,0⟩:Choice):Choice)=CW a l m;exact(PN (.inr (.inl ‹_›))).1
   ·show(false:Bool)=G9 a l m;exact(PN (.inr (.inl ‹_›))).2
  ·refine P3 Y Y Y (p1 Y (EY 30 Y Y (λz=>?_) (λz=>?_)))
   ·refine n1 Y (n1 Y (Pe Y (AH [0,5,6,8,9,33] Y (GF Y (Sr (q1 Y (FY (vs:=[]) (cs:=[(.string ⟨#[]⟩),(.slice none 0 0),(.slice none 0 0),(iv 0),(.slice none 0 0),(iv 0),(iv 0)]) Y (λ_=>by kernel_rfl) Y) (li Y (AZ (vs:=[(.string ⟨#[]⟩),(.slice none 0 0),(.slice none 0 0),(iv 0),(.slice none 0 0),(iv 0),(iv 0)]) (cs':=[(.string ⟨#[]⟩),(.slice none 0 0),(.slice none 0 0),(iv 0),(.slice none 0 0),(iv 0),(iv 0)]) 1 TP Y Y Y Y Y Y (AB Y (AB Y (AB Y (AB Y (AB Y (AB Y (AB Y BR))))))) (by simp) Y ?_))))))));refine Pe Y (Ct (Xr (CG (α:=Fact) (CG (α:=Pair) (CG (α:=Int) (AG [2,1,0,3,4,5] Y (FO (r:=(⟨⟨⟨#[]⟩,[],[]⟩,0,[],0,0⟩:Choice)) (AX false (AG [1,0,2,3,4] Y (DL Y (zH (cs:=[(.string ⟨#[]⟩),(.slice none 0 0),(.slice none 0 0),(iv 0),(.slice none 0 0),(iv 0),(iv 0)]) 3 C3 Y Y) (D8 Y) λw' hs=>AY (c1:=[(.string ⟨#[]⟩),(.slice none 0 0),(.slice none 0 0),(iv 0),(.slice none 0 0),(iv 0),(iv 0)]) (c2:=[(.bool false)]) hs ?_ ?_))))))))))
    ·show((⟨⟨⟨#[]⟩,[],[]⟩,0,[],0,0⟩:Choice):Choice)=CW a l m;exact(PN (.inr (.inr (ZM (by omega))))).1
    ·show(false:Bool)=G9 a l m;exact(PN (.inr (.inr (ZM (by omega))))).2
   ·refine p1 Y (qv A0N Y (λw' hs=>(gT (rO (k:=0) hs Y))) (Pe Y (AH [0,5,6,8,9,33] Y (Ci _ Y (λa7=>?_) (λa7=>?_)))))
    ·refine Sr (q1 Y (FY (vs:=[]) (cs:=[(.string ⟨#[]⟩),(.slice none 0 0),(.slice none 0 0),(iv 0),(.slice none 0 0),(iv 0),(iv 0)]) Y (λ_=>by kernel_rfl) Y) (li Y (AZ (vs:=[(.string ⟨#[]⟩),(.slice none 0 0),(.slice none 0 0),(iv 0),(.slice none 0 0),(iv 0),(iv 0)]) (cs':=[(.string ⟨#[]⟩),(.slice none 0 0),(.slice none 0 0),(iv 0),(.slice none 0 0),(iv 0),(iv 0)]) 1 TP Y Y Y Y Y Y (AB Y (AB Y (AB Y (AB Y (AB Y (AB Y (AB Y BR))))))) (by simp) Y ?_)));refine Pe Y (Ct (Xr (CG (α:=Fact) (CG (α:=Pair) (CG (α:=Int) (AG [2,1,0,3,4,5] Y (FO (r:=(⟨⟨⟨#[]⟩,[],[]⟩,0,[],0,0⟩:Choice)) (AX false (AG [1,0,2,3,4] Y (DL Y (zH (cs:=[(.string ⟨#[]⟩),(.slice none 0 0),(.slice none 0 0),(iv 0),(.slice none 0 0),(iv 0),(iv 0)]) 3 C3 Y Y) (D8 Y) λw' hs=>AY (c1:=[(.string ⟨#[]⟩),(.slice none 0 0),(.slice none 0 0),(iv 0),(.slice none 0 0),(iv 0),(iv 0)]) (c2:=[(.bool false)]) hs ?_ ?_))))))))))
     ·show((⟨⟨⟨#[]⟩,[],[]⟩,0,[],0,0⟩:Choice):Choice)=CW a l m;exact(sP ‹_› ‹_›).1
     ·show(false:Bool)=G9 a l m;exact(sP ‹_› ‹_›).2
    ·refine Sk (Cq (A0 mixed [15,16] (by kernel_rfl) (Tk 0 Y Y (C9 2 C2y Y Y Y) (tK 14 [2,3] Y ?_))));obtain⟨r0,f⟩:=sI a ((BN a m.Rule).toNat);have hrs:=C8 (c:=BG) (List.mem_of_getElem? f);obtain⟨a8,g,h⟩:=AC (n:=4) rfl b f;obtain⟨ah,ai,rfl,a0,a1⟩:=BC h;have a9:=rM a0;have aa:=rM a1;refine Tk 4 Y Y (AJ (l:=a) (j:=((BN a m.Rule).toNat)) C1s Y Y Y (λw' hs=>(rA hs b)) (Int.toNat_of_nonneg (by omega)).symm (lS f)) (Tk 5 Y Y (B2 pJ Y Y) (Tk 6 Y Y (lr CJ Y Y g Y) (tK 8 [7,8,9] Y (Tk 10 Y Y (AJ (l:=a) (j:=((BN a m.Rule).toNat)) C1s Y Y Y (λw' hs=>(rA hs b)) (Int.toNat_of_nonneg (by omega)).symm (lS f)) (Tk 11 Y Y (EX qM Y Y g) (tR 13 Y Y (ty 1 Y Y (zE Y A4b Y Y Y Y (λw' hs=>(QR (rA hs s) a6)) λab=>?_))))))));refine Dp (λw' hs=>KT (rO (k:=0) hs Y)) ?_;rintro⟨v26,v27,rfl,a2,a3⟩;refine tS (λ_ hs=>hs.pk [1,2,3] Y Y) (ty 12 Y Y (cv A4c Y Y Y Y (λw' hs=>(RP (rA hs h) (by omega) (ho _ (List.mem_of_getElem? f)))) ?_));refine tS (λ_ hs=>hs.pk [1,2,3] Y Y) (Dp (λw' hs=>CZ (k:=1) hs Y) ?_);intro i;refine Tj 14 Y Y (λ_ hs=>hs.pk [1,2,3] Y Y) (FJ (vs:=[(0,(.agg #[(.string m.Rule),v26,v27])),(1,(iv r0.Priority)),(2,e),(3,(iv (GD r0:Int))),(4,(iv (BN a m.Rule)))]) (xs:=[(0,[(.string m.Rule),v26,v27]),(1,[(iv r0.Priority)]),(2,[e]),(3,[(iv (GD r0:Int))]),(4,[(iv (BN a m.Rule))])]) (cs:=[(.string m.Rule),v26,v27,(iv r0.Priority),e,(iv (GD r0:Int)),(iv (BN a m.Rule))]) A0K Y ⟨Y,Y,⟨Y,Y,⟨Y,(AO i),⟨Y,Y,⟨Y,Y,trivial⟩⟩⟩⟩⟩ Y Y) (ty 15 Y Y (AZ (vs:=[(.string m.Rule),v26,v27,(iv r0.Priority),e,(iv (GD r0:Int)),(iv (BN a m.Rule))]) (cs':=[(.string m.Rule),v26,v27,(iv r0.Priority),e,(iv (GD r0:Int)),(iv (BN a m.Rule))]) 2 TP Y Y Y Y Y Y (AB Y (AB a2 (AB a3 (AB Y (AB i (AB Y (AB Y BR))))))) (by simp) Y ?_));refine tZ Y (tW 16 Y Y Y (tE (Xt (Ct (BB (α:=ByteArray) (β:=(List Fact)×(List Pair)) (c1:=[(.string m.Rule)]) (c2:=[v26,v27]) (x:=m.Rule) (y:=(m.Facts,m.Binding)) Y Y (BZ [] 1 Y (BB (α:=(List Fact)) (β:=(List Pair)) (c1:=[v26]) (c2:=[v27]) (x:=m.Facts) (y:=(m.Binding)) Y Y (BZ [1] 0 Y (AG [1,0,2,3,4] Y (FO (r:=(⟨m,r0.Priority,BJ l m.Facts,(GD r0:Int),(BN a m.Rule)⟩:Choice)) (AX true (AG [1,0,2,3] Y (DL Y (zH (cs:=[(.string m.Rule),v26,v27,(iv r0.Priority),e,(iv (GD r0:Int)),(iv (BN a m.Rule))]) 2 C3 Y Y) (D8 Y) λw' hs=>AY (c1:=[(.string m.Rule),v26,v27,(iv r0.Priority),e,(iv (GD r0:Int)),(iv (BN a m.Rule))]) (c2:=[(.bool true)]) hs ?_ ?_)))))))))))))
     ·show((⟨m,r0.Priority,BJ l m.Facts,(GD r0:Int),(BN a m.Rule)⟩:Choice):Choice)=CW a l m;exact(sO ‹_› ‹_› (by omega) ‹_› f).1
     ·show(true:Bool)=G9 a l m;exact(sO ‹_› ‹_› (by omega) ‹_› f).2
end Go.Sy.Cho2
