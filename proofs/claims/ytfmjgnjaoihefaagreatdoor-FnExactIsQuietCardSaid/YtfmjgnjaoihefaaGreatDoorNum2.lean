/-
  Contracts of functions of the program, walked (printed by a program of ours).
  Conditions: those that each theorem states.
-/
import Derived.Test.YtfmjgnjaoihefaaGreatDoorFct
import Derived.Test.YtfmjgnjaoihefaaGreatDoorNum1
import Derived.Test.YtfmjgnjaoihefaaGreatDoorNum
set_option linter.unusedVariables false
set_option maxRecDepth 20000
namespace Go.Sy.Num2
open Go Go.RowKit Go.Proofs Go.Sy
open Go.Sy.Bel1 Go.Sy.Ev1 Go.Sy.Ev2 Go.Sy.Fmt1 Go.Sy.Eng1 Go.Sy.Eng2 Go.Sy.Eng3 Go.Sy.Num1
theorem WB{w:World}{c:Value}{l:(List Fact)}(a:Gd.rd w [c] l)(t:Tb w):Cy 161 [c] w (Val w (.bool (AW l))):=by
 have a2:=rM a;refine enter 33 Tryz.func161 Y Y Y (Sr (Pe Y (Cq (Sr (p1 Y (dl B1 Y (AE a) (Pe Y (Cd Y (λu=>?_) (λu=>?_)))))))))
 ·refine Sr (Pe Y (Ct (Xr (Rb Y Y ?_))));exact A5a (by omega)
 ·refine Sk (Cq (Sr (p1 Y (dl B1 Y (AE a) (Pe Y (Cb (Cl (λm_ ac w'=>∃(k:Nat),(k<=l.length)/\(∀i,i<k->GA l i=true)/\m_=l.length-k/\Fits ac 33 [(0,c),(8,c),(9,(nv l.length)),(10,(nv k))]/\St w ([]) w') ?_ ?_)))))))
  ·refine λac w' hf hs=>⟨_,0,?_,?_,Y,hf.wk Y,hs⟩
   ·omega
   ·intro i hi;omega
  ·rintro m_ ac w' ⟨k,hk,hi,rfl,hf,hs⟩;refine D.use ?_ hf hs;clear hf hs ac w';refine Sr (Pe Y (Cq (Cd Y (λv=>?_) (λv=>?_))))
   ·refine Sk (Cq (Cb (Sr (p1 Y ?_))));obtain⟨x,b⟩:=sI l k;obtain⟨a3,y,f⟩:=AC (n:=2) rfl a b;obtain⟨z,rfl,g⟩:=AS f;have a4:=rM g;refine q1 Y (AJ (l:=l) (j:=k) B1 Y Y Y (λw' hs=>(rA hs a)) Y (lS b)) (q1 Y (EX C3 Y Y y) (aL I6 Y λg10=>?_));refine p1 Y (li Y (AZ (vs:=[(.string x.Rel),z]) (cs':=[(.string x.Rel),z]) 0 TP Y Y Y Y Y Y (AB Y (AB (A2 g) BR)) (by simp) Y ?_));refine Dx (Dh ([bx g10 [(.string x.Rel),z]]) Y (Cq (A0 mixed [1,2,3,4,5,6,13,14,15,16] (by kernel_rfl) (Tk 0 Y Y (C9 0 C3 Y Y Y) (ty 1 Y Y (cv OP Y Y Y Y (λw' hs=>(EQ (rA hs f))) ?_))))));refine tZ Y (tW 2 Y Y Y (tW 3 Y Y Y (JQ 18 Y Y (λm=>?_) (λm=>?_))))
    ·refine tK 1 [4,5,6,7,8,9,10,11,12,13,14,15] Y (tW 16 Y Y Y (tE (Xt (AH [0,8,9,10,31] Y (AG [] Y (GF Y (Sr (Pe Y (Ct ?_)))))))));refine Xq (Xr (Xr (Xq (Xr (Rb Y Y ?_)))));exact jV (k:=k) (by omega) (XH b ‹_›)
    ·refine tW 4 Y Y Y (tW 5 Y Y Y (tW 6 Y Y Y (EY 21 Y Y (λo=>?_) (λo=>?_))))
     ·refine tK 8 [7,8] Y (Tk 9 Y Y (B3 Y Y Y (r:=((k-1:Nat):Int)) (by omega) (by omega)) ?_);obtain⟨p0,d⟩:=sI l (k-1);obtain⟨a0,p,e⟩:=AC (n:=2) rfl a d;obtain⟨a5,rfl,q⟩:=AS e;have a1:=rM q;refine Tk 10 Y Y (AJ (l:=l) (j:=(k-1)) B1 Y Y Y (λw' hs=>(rA hs a)) Y (lS d)) (Tk 11 Y Y (EX C3 Y Y p) (Tk 12 Y Y (C9 0 C3 Y Y Y) (ty 13 Y Y (cv A0I Y Y Y Y (λw' hs=>(K2 (rA hs e) (rA hs f) (Tb.ext t hs.bel))) ?_))));refine tZ Y (tW 14 Y Y Y (tW 15 Y Y Y (tW 16 Y Y Y (tE (Xt (AH [0,8,9,10,31] Y (AG [] Y (Cd Y (λs=>?_) (λs=>?_)))))))))
      ·refine Sr (Pe Y (Ct (Xq (Xr (Xr (Xq (Xr (Rb Y Y ?_))))))));exact jV (k:=k) (by omega) (XI b d (by omega) (by omega))
      ·refine Ck (Xb (Xt (Cr (ad (k+1) Y (Pe Y (λac w' hf hs=>⟨_,?_,k+1,?_,?_,Y,hf.wk Y,hs⟩))))))
       ·omega
       ·omega
       ·refine AF hi ?_;exact UK b d (by omega) ‹_› (by omega)
     ·refine tK 2 [7,8,9,10,11,12,13,14] Y (tW 15 Y Y Y (tW 16 Y Y Y (tE (Xt (AH [0,8,9,10,31] Y (AG [] Y (G7 Y (Ck (Xb (Xt (Cr (ad (k+1) Y (Pe Y (λac w' hf hs=>⟨_,?_,k+1,?_,?_,Y,hf.wk Y,hs⟩))))))))))))))
      ·omega
      ·omega
      ·refine AF hi ?_;exact UJ b ‹_› (by omega)
   ·refine Cx (Xx (Xx (Xe (Xt (Sr (Pe Y (Ct (Rb Y Y ?_))))))));exact A7c (by omega) (λi h=>hi i (by omega))
theorem OV{w:World}{e:Value}{l:(List Fact)}(a:Gd.rd w [e] l)(x:LR P9 l):Cy 147 [e] w (Val w (.bool (AW l))):=by
 have y:=rM a;refine enter 36 Tryz.func147 Y Y Y (Sr (Pe Y (Cq (Sr (Pe Y (Cb (Cl (λm_ ac w'=>∃(k:Nat),(k<=l.length)/\(∀i,i<k->GA l i=true)/\m_=l.length-k/\Fits ac 36 [(0,e),(3,(nv k))]/\St w ([]) w') ?_ ?_)))))))
 ·refine λac w' hf hs=>⟨_,0,?_,?_,Y,hf.wk Y,hs⟩
  ·omega
  ·intro i hi;omega
 ·rintro m_ ac w' ⟨k,hk,hi,rfl,hf,hs⟩;refine D.use ?_ hf hs;clear hf hs ac w';refine Cq (Sr (P2 Y Y (dl B1 Y (AE a) (Pe Y (Cd Y (λq=>?_) (λq=>?_))))))
  ·refine Sk (Cq (Cb (Cq (A0 mixed [4,5,6,7,8,9,19,20,21,22] (by kernel_rfl) (tK 21 [0,1] Y ?_)))));obtain⟨f0,b⟩:=sI l k;obtain⟨z,at4,f⟩:=AC (n:=2) rfl a b;obtain⟨u6,rfl,s⟩:=AS f;have a0:=rM s;refine Tk 2 Y Y (AJ (l:=l) (j:=k) B1 Y Y Y (λw' hs=>(rA hs a)) Y (lS b)) (Tk 3 Y Y (EX C3 Y Y at4) (ty 4 Y Y (cv OQ Y Y Y Y (λw' hs=>(ER (rA hs f) (x _ (List.mem_of_getElem? b)))) ?_)));refine tZ Y (tW 5 Y Y Y (tW 6 Y Y Y (JQ 16 Y Y (λt=>?_) (λt=>?_))))
   ·refine tK 1 [7,8,9,10,11,12,13,14,15,16,17,18,19,20,21] Y (tW 22 Y Y Y (tE (Xt (AH [0,3,32] Y (GF Y (Sr (p1 Y (De ?_))))))));refine Xt (Ct (Xq (Xr (Xr (Xq (Xr (Rb Y Y ?_)))))));exact jV (k:=k) (by omega) (XH b ‹_›)
   ·refine tW 7 Y Y Y (tW 8 Y Y Y (tW 9 Y Y Y (EY 19 Y Y (λg=>?_) (λg=>?_))))
    ·refine tK 11 [10,11] Y (Tk 12 Y Y (B3 Y Y Y (r:=((k-1:Nat):Int)) (by omega) (by omega)) ?_);obtain⟨p0,c⟩:=sI l (k-1);obtain⟨u,m,d⟩:=AC (n:=2) rfl a c;obtain⟨a1,rfl,o⟩:=AS d;have v:=rM o;refine Tk 13 Y Y (AJ (l:=l) (j:=(k-1)) B1 Y Y Y (λw' hs=>(rA hs a)) Y (lS c)) (Tk 14 Y Y (EX C3 Y Y m) (tK 6 [15,16] Y (Tk 17 Y Y (AJ (l:=l) (j:=k) B1 Y Y Y (λw' hs=>(rA hs a)) Y (lS b)) (Tk 18 Y Y (EX C3 Y Y at4) (ty 19 Y Y (cv A0J Y Y Y Y (λw' hs=>(K3 (rA hs d) (rA hs f))) ?_))))));refine tZ Y (tW 20 Y Y Y (tW 21 Y Y Y (tW 22 Y Y Y (tE (Xt (AH [0,3,32] Y (Cd Y (λp=>?_) (λp=>?_))))))))
     ·refine Sr (Pe Y (Ct (Xq (Xr (Xr (Xq (Xr (Rb Y Y ?_))))))));exact jV (k:=k) (by omega) (XI b c (by omega) (by omega))
     ·refine Ck (Xb (Xt (Cr (p1 Y (ad (k+1) Y (Pe Y (λac w' hf hs=>⟨_,?_,k+1,?_,?_,Y,hf.wk Y,hs⟩)))))))
      ·omega
      ·omega
      ·refine AF hi ?_;exact UK b c (by omega) ‹_› (by omega)
    ·refine tK 2 [10,11,12,13,14,15,16,17,18,19,20] Y (tW 21 Y Y Y (tW 22 Y Y Y (tE (Xt (AH [0,3,32] Y (G7 Y (Ck (Xb (Xt (Cr (p1 Y (ad (k+1) Y (p1 Y ?_)))))))))))));refine Dx (λac w' hf hs=>⟨_,?_,k+1,?_,?_,Y,hf.wk Y,hs⟩)
     ·omega
     ·omega
     ·refine AF hi ?_;exact UJ b ‹_› (by omega)
  ·refine Cx (Xx (Xx (Xe (Xt (Sr (p1 Y (dl B1 Y (AE a) (P2 Y Y (Dx (Ct (Rb Y Y ?_)))))))))));show((decide ((((l.length:Nat):Int):Int)<=24)):Bool)=_;exact A7d (λi h=>hi i (by omega))
theorem I1{w:World}{a:List Value}{f:Fact}(e:Gd.rd w a f)(hp:F9 f<=1048576):Cy 101 [(.agg a.toArray)] w (HH w (f:Fact)):=by
 obtain⟨g,rfl,b⟩:=AS e;have h:=rM b;unfold F9 M9 at hp;refine enter 9 Tryz.func101 Y Y Y (Sr (bX Y λg4=>?_));refine aL I6 Y λg5=>?_
 refine Dx (Dh ([bx g5 [(.string ⟨#[]⟩),(.slice none 0 0)],bx g4 [(.string f.Rel),g]]) Y (Cq (A0 mixed [6] (by kernel_rfl) (Tk 0 Y Y (Db EH Y Y (q:=0) Y) (Tk 1 Y Y (lb 1 BK Y Y Y Y) (Tk 2 Y Y (Db BU Y Y (q:=1) Y) (Tk 3 Y Y (lb 1 B5 Y Y Y Y) (ty 4 Y Y (YJ pN Y Y Y Y (λw' hs=>(KB (rA hs b) (by omega))) λc=>?_)))))))));refine tS (λ_ hs=>hs.pk [1,2] Y Y) (Dp (λw' hs=>CZ (k:=0) hs Y) ?_);intro d;refine Tj 5 Y Y (λ_ hs=>hs.pk [1,2] Y Y) (FJ (vs:=[(0,(.string f.Rel)),(1,c)]) (xs:=[(0,[(.string f.Rel)]),(1,[c])]) (cs:=[(.string f.Rel),c]) A0K Y ⟨Y,Y,⟨Y,(AO d),trivial⟩⟩ Y Y) (ty 6 Y Y (AZ (vs:=[(.string f.Rel),c]) (cs':=[(.string f.Rel),c]) 1 TP Y Y Y Y Y Y (AB Y (AB d BR)) (by simp) Y ?_));refine tZ Y (tE (Xt (Ct (S4 (r:=(f:Fact)) (eW 1 C3 Y Y Y λw' hs=>A7 (k:=0) hs Y ?_)))));show(f:Fact)=f;rfl
theorem K4{w:World}{a:List Value}{f:Fact}(e:Gd.rd w a f)(hp:F9 f<=1048576):Cy 87 [(.agg a.toArray)] w (HH w (f:Fact)):=by
 obtain⟨g,rfl,b⟩:=AS e;have h:=rM b;unfold F9 M9 at hp;refine enter 9 Tryz.func87 Y Y Y (Sr (bX Y λg4=>?_));refine aL I6 Y λg5=>?_
 refine Dx (Dh ([bx g5 [(.string ⟨#[]⟩),(.slice none 0 0)],bx g4 [(.string f.Rel),g]]) Y (Cq (A0 mixed [6] (by kernel_rfl) (Tk 0 Y Y (Db EH Y Y (q:=0) Y) (Tk 1 Y Y (lb 1 BK Y Y Y Y) (Tk 2 Y Y (Db BU Y Y (q:=1) Y) (Tk 3 Y Y (lb 1 B5 Y Y Y Y) (ty 4 Y Y (YJ A3s Y Y Y Y (λw' hs=>(ZE (rA hs b) (by omega))) λc=>?_)))))))));refine tS (λ_ hs=>hs.pk [1,2] Y Y) (Dp (λw' hs=>CZ (k:=0) hs Y) ?_);intro d;refine Tj 5 Y Y (λ_ hs=>hs.pk [1,2] Y Y) (FJ (vs:=[(0,(.string f.Rel)),(1,c)]) (xs:=[(0,[(.string f.Rel)]),(1,[c])]) (cs:=[(.string f.Rel),c]) A0K Y ⟨Y,Y,⟨Y,(AO d),trivial⟩⟩ Y Y) (ty 6 Y Y (AZ (vs:=[(.string f.Rel),c]) (cs':=[(.string f.Rel),c]) 1 TP Y Y Y Y Y Y (AB Y (AB d BR)) (by simp) Y ?_));refine tZ Y (tE (Xt (Ct (S4 (r:=(f:Fact)) (eW 1 C3 Y Y Y λw' hs=>A7 (k:=0) hs Y ?_)))));show(f:Fact)=f;rfl
theorem QK{w:World}{e:Value}{l:(List Stamp)}(b:Gd.rd w [e] l)(t:DD CM l<=1048576):Cy 109 [e] w (HH w (l.map Stamp.Fact:List Fact)):=by
 have u:=rM b;unfold DD at t;refine enter 20 Tryz.func109 Y Y Y (Sr (Pe Y (Sr (Pe Y (Cq (Sr (p1 Y (dl HJ Y (AE b) (Pe Y (Cb (Cl (λm_ ac w'=>∃(k:Nat),∃(v:Value),(k<=l.length)/\m_=l.length-k/\Fits ac 20 [(3,v),(6,e),(7,(nv l.length)),(8,(nv k))]/\St w ([ov [v] ((l.take k).map Stamp.Fact:(List Fact))]) w') ?_ ?_)))))))))))
 ·refine CG (α:=Fact) (A3 0 Y (show([]:(List Fact))=(l.take 0).map Stamp.Fact from by simp) (λac w' hf hs=>⟨_,0,(.slice none 0 0),?_,Y,hf.wk Y,hs⟩))
  ·omega
 ·rintro m_ ac w' ⟨k,v,hk,rfl,hf,hs⟩;refine D.use ?_ hf hs;clear hf hs ac w';have hcl:((l.take k).map Stamp.Fact).length<=k:=by rw[List.length_map,List.length_take];omega
  refine Sr (Pe Y (Dh ([_]) Y (Cq (Cd Y (λm=>?_) (λm=>?_)))))
  ·refine Sk (Cq (Cb (Sr ?_)));obtain⟨a,d⟩:=sI l k;have hle:=C8 (c:=CM) (List.mem_of_getElem? d);have p:CM a=F9 a.Fact:=rfl;obtain⟨x,at4,f⟩:=AC (n:=3) rfl b d;obtain⟨i,rfl,g⟩:=B9 f;have y:=rM g;have o:=BE f;refine q1 Y (AJ (l:=l) (j:=k) HJ Y Y Y (λw' hs=>(rA hs b)) Y (lS d)) (q1 Y (EX P6 Y Y at4) (aL SC Y λg10=>?_));refine li Y (AZ (vs:=[(.string a.Fact.Rel),i,(iv a.Time)]) (cs':=[(.string a.Fact.Rel),i,(iv a.Time)]) 0 TQ Y Y Y Y Y Y (AB Y (AB (A2 g) (AB Y BR))) (by simp) Y ?_);refine Dx (Dh ([bx g10 [(.string a.Fact.Rel),i,(iv a.Time)],_]) Y (Cr (p1 Y (q1 Y (Db IU Y Y (q:=0) Y) (q1 Y (H2 (es:=[(.string a.Fact.Rel),i]) 0 C3 Y Y Y Y) (qs Y iY Y (λw' hs=>(I1 (rA hs o) (by omega))) λr=>?_))))));refine Dp (λw' hs=>EZ (rO (k:=0) hs Y)) ?_;rintro⟨v12,rfl,s⟩;refine li Y (FF B1 I6 Y (by decide) (by decide) Y Y Y Y Y Y λg14=>?_);refine AG [3,1,0,2] Y (li Y (GZ B1 I6 Y (by decide) Y Y Y Y Y Y (by omega) (by omega) λh=>?_));refine p1 Y (De (Xb (Xt (Dh ([ov [h] (((l.take k).map Stamp.Fact)++ [a.Fact]:(List Fact)),_]) Y (Cr (ad (k+1) Y (Pe Y (A3 0 Y (show(((l.take k).map Stamp.Fact)++ [a.Fact]:(List Fact))=(l.take (k+1)).map Stamp.Fact from by rw[A1 d,List.map_append];rfl) (λac w' hf hs=>⟨_,?_,k+1,h,?_,Y,hf.wk Y,hs.pk [0] Y Y⟩)))))))))
   ·omega
   ·omega
  ·refine Cx (Xx (Xx (Xe (Xt (Sr (P2 Y Y (Dx (Ct (FV Y Y λw' hs=>A7 (k:=0) hs Y ?_)))))))));show(l.take k).map Stamp.Fact=l.map Stamp.Fact;rw[List.take_of_length_le (by omega)]
theorem QL{w:World}{d:Value}{l:(List Stamp)}(a:Gd.rd w [d] l)(t:DD CM l<=1048576):Cy 137 [d] w (HH w (l.map Stamp.Fact:List Fact)):=by
 have u:=rM a;unfold DD at t;refine enter 22 Tryz.func137 Y Y Y (Sr (Pe Y (Sr (li Y (FL (α:=Fact) B1 Y Y Y λv2=>?_)))));refine Pe Y (Dh ([ov [v2] ([]:(List Fact))]) Y (Cq (Sr (Pe Y (Cb (Cl (λm_ ac w'=>∃(k:Nat),∃(v:Value),(k<=l.length)/\m_=l.length-k/\Fits ac 22 [(0,d),(3,v),(4,(nv k))]/\St w ([ov [v] ((l.take k).map Stamp.Fact:(List Fact))]) w') ?_ ?_))))))
 ·refine A3 0 Y (show([]:(List Fact))=(l.take 0).map Stamp.Fact from by simp) (λac w' hf hs=>⟨_,0,v2,?_,Y,hf.wk Y,hs⟩)
  ·omega
 ·rintro m_ ac w' ⟨k,v,hk,rfl,hf,hs⟩;refine D.use ?_ hf hs;clear hf hs ac w';have hcl:((l.take k).map Stamp.Fact).length<=k:=by rw[List.length_map,List.length_take];omega
  refine Cq (Sr (P2 Y Y (dl HJ Y (AE a) (Pe Y (Dh ([_]) Y (Cd Y (λm=>?_) (λm=>?_)))))))
  ·refine Sk (Cq (Cb (Cr (P3 Y Y Y ?_))));obtain⟨i,b⟩:=sI l k;have hle:=C8 (c:=CM) (List.mem_of_getElem? b);have q:CM i=F9 i.Fact:=rfl;obtain⟨x,o,e⟩:=AC (n:=3) rfl a b;obtain⟨z,rfl,p⟩:=B9 e;have y:=rM p;have g:=BE e;refine q1 Y (AJ (l:=l) (j:=k) HJ Y Y Y (λw' hs=>(rA hs a)) Y (lS b)) (q1 Y (B2 IU Y Y) (q1 Y (EX C3 Y Y (Q1 (f:=0) (n:=2) o Y)) (qs Y wD Y (λw' hs=>(K4 (rA hs g) (by omega))) λr=>?_)));refine Dp (λw' hs=>EZ (rO (k:=0) hs Y)) ?_;rintro⟨v12,rfl,s⟩;refine li Y (FF B1 I6 Y (by decide) (by decide) Y Y Y Y Y Y λg14=>?_);refine AG [2,1,0] Y (li Y (GZ B1 I6 Y (by decide) Y Y Y Y Y Y (by omega) (by omega) λh=>?_));refine p1 Y (De (Xb (Xt (Dh ([ov [h] (((l.take k).map Stamp.Fact)++ [i.Fact]:(List Fact))]) Y (Cr (p1 Y (ad (k+1) Y (Pe Y (A3 0 Y (show(((l.take k).map Stamp.Fact)++ [i.Fact]:(List Fact))=(l.take (k+1)).map Stamp.Fact from by rw[A1 b,List.map_append];rfl) (λac w' hf hs=>⟨_,?_,k+1,h,?_,Y,hf.wk Y,hs⟩))))))))))
   ·omega
   ·omega
  ·refine Cx (Xx (Xx (Xe (Xt (Sr (P2 Y Y (Dx (Ct (FV Y Y λw' hs=>A7 (k:=0) hs Y ?_)))))))));show(l.take k).map Stamp.Fact=l.map Stamp.Fact;rw[List.take_of_length_le (by omega)]
theorem OW{w:World}{c:Value}{l:(List Stamp)}(b:Gd.rd w [c] l)(u:DD CM l<=1048576)(o:Tb w):Cy 104 [c] w (Val w (.bool (C5 l))):=by
 have x:=rM b;have p:=u;unfold DD at u;refine enter 34 Tryz.func104 Y Y Y (Sr (Pe Y (Sr (li Y (xL Y Y Y λg2=>?_)))));refine Pe Y (Dh ([ov [(.map (some g2))] ((⟨[]⟩:ISet):ISet)]) Y (Cq (Sr (p1 Y (dl HJ Y (AE b) (Pe Y (Cb (Cl (λm_ ac w'=>∃(k:Nat),(k<=l.length)/\(∀i,i<k->HE l i=true)/\m_=l.length-k/\Fits ac 34 [(0,c),(3,(.map (some g2))),(7,c),(8,(nv l.length)),(9,(nv k))]/\St w ([ov [(.map (some g2))] (LU l k:ISet)]) w') ?_ ?_))))))))
 ·refine A3 0 Y (show((⟨[]⟩:ISet):ISet)=LU l 0 from by rfl) (λac w' hf hs=>⟨_,0,?_,?_,Y,hf.wk Y,hs⟩)
  ·omega
  ·intro i hi;omega
 ·rintro m_ ac w' ⟨k,hk,hi,rfl,hf,hs⟩;refine D.use ?_ hf hs;clear hf hs ac w';refine Sr (Pe Y (Dh ([_]) Y (Cq (Cd Y (λq=>?_) (λq=>?_)))))
  ·refine Sk (Cq (Cb (Sr ?_)));obtain⟨d,a⟩:=sI l k;obtain⟨y,r,e⟩:=AC (n:=3) rfl b a;obtain⟨s,rfl,f⟩:=B9 e;have z:=rM f;have v:=BE e;refine q1 Y (AJ (l:=l) (j:=k) HJ Y Y Y (λw' hs=>(rA hs b)) Y (lS a)) (q1 Y (EX P6 Y Y r) (aL SC Y λg11=>?_));refine li Y (AZ (vs:=[(.string d.Fact.Rel),s,(iv d.Time)]) (cs':=[(.string d.Fact.Rel),s,(iv d.Time)]) 0 TQ Y Y Y Y Y Y (AB Y (AB (A2 f) (AB Y BR))) (by simp) Y ?_);refine Dx (Dh ([bx g11 [(.string d.Fact.Rel),s,(iv d.Time)],_]) Y (Cq (Sr (fl 0 F6 CJ Y (P2 Y Y (EY 16 Y Y (λg=>?_) (λg=>?_)))))))
   ·refine n1 Y (n1 Y (n1 Y (P2 Y Y (n1 Y (n1 Y (n1 Y (n1 Y (Pe Y (AH [0,3,5,7,8,9,26] Y (GF Y (Sr (Pe Y (Ct (Xr (Xq (Xr (Xr (Xq ?_))))))))))))))))));refine Xr (Rb Y Y ?_);exact cP (k:=k) (lS a) (RN a (by unfold GO;simp;omega))
   ·refine fl 0 F6 CJ Y (P3 Y Y Y (EY 21 Y Y (λm=>?_) (λm=>?_)))
    ·refine n1 Y (n1 Y (n1 Y (n1 Y (Pe Y (AH [0,3,5,7,8,9,26] Y (GF Y (Sr (Pe Y (Ct (Xr (Xq (Xr (Xr (Xq (Xr (Rb Y Y ?_))))))))))))))));exact cP (k:=k) (lS a) (RN a (by unfold GO;simp;omega))
    ·refine p1 Y (fl 0 F6 CJ Y (q1 Y (rZ 1 qC LO y_4 Y Y Y Y) (Pe Y (AH [0,3,5,7,8,9,26] Y (Ci _ Y (λt=>?_) (λt=>?_))))))
     ·refine Sr (Pe Y (Ct (Xr (Xq (Xr (Xr (Xq (Xr (Rb Y Y ?_)))))))));exact cP (k:=k) (lS a) (XJ a ‹_›)
     ·refine Sk (Cr (p1 Y (fl 0 F6 CJ Y (li Y (xM 1 qC LO Y Y Y Y Y Y ‹_› ?_)))));refine De (Xb (Xt (Dh ([_,ov [(.map (some g2))] (ISet.add (LU l k) d.Time:ISet)]) Y (Cr (ad (k+1) Y (Pe Y (A3 1 Y (show(ISet.add (LU l k) d.Time:ISet)=LU l (k+1) from by exact gG a) (λac w' hf hs=>⟨_,?_,k+1,?_,?_,Y,hf.wk Y,hs.pk [1] Y Y⟩))))))))
      ·omega
      ·omega
      ·refine AF hi ?_;exact cM a (by unfold GO;simp;omega) ‹_›
  ·refine Cx (Xx (Xx (Xe (Xt (Sr (p1 Y (ql A0L Y (λw' hs=>(QK (rA hs b) p)) λa0=>?_)))))));refine qv A3t Y (λw' hs=>(WB (rO (k:=0) hs Y) (Tb.ext o hs.bel))) (Pe Y (Ct (Rb Y Y ?_)));show((AW (l.map Stamp.Fact)):Bool)=_;exact A0q (λi h=>hi i (by omega))
theorem OX{w:World}{c:Value}{l:(List Stamp)}(a:Gd.rd w [c] l)(v:DD CM l<=1048576)(ho:LR MA l):Cy 89 [c] w (Val w (.bool (C5 l))):=by
 have a1:=rM a;have s:=v;unfold DD at v;refine enter 37 Tryz.func89 Y Y Y (Sr (Pe Y (Cq (Sr (Pe Y (Cb (Cl (λm_ ac w'=>∃(k:Nat),(k<=l.length)/\(∀i,i<k->HE l i=true)/\m_=l.length-k/\Fits ac 37 [(0,c),(3,(nv k))]/\St w ([]) w') ?_ ?_)))))))
 ·refine λac w' hf hs=>⟨_,0,?_,?_,Y,hf.wk Y,hs⟩
  ·omega
  ·intro i hi;omega
 ·rintro m_ ac w' ⟨k,hk,hi,rfl,hf,hs⟩;refine D.use ?_ hf hs;clear hf hs ac w';refine Cq (Sr (P2 Y Y (dl HJ Y (AE a) (Pe Y (Cd Y (λt=>?_) (λt=>?_))))))
  ·refine Sk (Cq (Cb (Cq (Sr (P2 Y Y ?_)))));obtain⟨s0,b⟩:=sI l k;obtain⟨a2,at4,f⟩:=AC (n:=3) rfl a b;obtain⟨u6,rfl,u⟩:=B9 f;have a3:=rM u;have a4:=BE f;refine q1 Y (AJ (l:=l) (j:=k) HJ Y Y Y (λw' hs=>(rA hs a)) Y (lS b)) (q1 Y (B2 F6 Y Y) (q1 Y (lr CJ Y Y at4 Y) (qv SP Y (λw' hs=>E7) (Pe Y (CN Y (λg=>?_) (λg=>?_))))))
   ·refine Sr (Pe Y (Ct (Xr (Xq (Xr (Xr (Xq (Xr (Rb Y Y ?_)))))))));exact cP (k:=k) (lS b) (RN b ‹_›)
   ·refine Sk (Sr (Pe Y (Cb (Cl (λm_ ac w'=>∃(j:Nat),(j<=k)/\(∀i,i<j->∀q,l[i]?=some q->q.Time≠s0.Time)/\m_=k-j/\Fits ac 37 [(0,c),(3,(nv k)),(4,(nv j))]/\St w ([]) w') ?_ ?_))))
    ·refine λac w' hf hs=>⟨_,0,?_,?_,Y,hf.wk Y,hs⟩
     ·omega
     ·intro i hi;omega
    ·rintro m_ ac w' ⟨j,hjk,hj,rfl,hf,hs⟩;refine D.use ?_ hf hs;clear hf hs ac w';refine Cq (Sr (P3 Y Y Y (Dx (Cd Y (λm=>?_) (λm=>?_)))))
     ·refine Sk (Cq (Cb (Cq (A0 mixed [] (by kernel_rfl) (tK 9 [0,1] Y ?_)))));obtain⟨q0,d⟩:=sI l j;obtain⟨x,o,e⟩:=AC (n:=3) rfl a d;obtain⟨a5,rfl,p⟩:=B9 e;have z:=rM p;have a0:=BE e;refine Tk 2 Y Y (AJ (l:=l) (j:=j) HJ Y Y Y (λw' hs=>(rA hs a)) Y (lS d)) (Tk 3 Y Y (B2 F6 Y Y) (Tk 4 Y Y (lr CJ Y Y o Y) (tK 4 [5,6] Y (Tk 7 Y Y (AJ (l:=l) (j:=k) HJ Y Y Y (λw' hs=>(rA hs a)) Y (lS b)) (Tk 8 Y Y (B2 F6 Y Y) (Tk 9 Y Y (lr CJ Y Y at4 Y) (tR 10 Y Y (tE (Xt (Ce Y (λr=>?_) (λr=>?_)))))))))))
      ·refine Sr (Pe Y (Ct (Xq (Xr (Xr (Xq (Xq (Xr (Xr (Xq (Xr (Rb Y Y ?_))))))))))));exact cP (k:=k) (lS b) (XK b d (by omega) ‹_›)
      ·refine Ck (Xb (Xt (Cr (p1 Y (ad (j+1) Y (Pe Y (λac w' hf hs=>⟨_,?_,j+1,?_,?_,Y,hf.wk Y,hs⟩)))))))
       ·omega
       ·omega
       ·refine AF hj ?_;intro y hy;obtain rfl:y=q0:=Option.some.inj (hy.symm.trans d);omega
     ·refine Cx (Xx (Xx (Xe (Xb (Xt (Cr (p1 Y (ad (k+1) Y (Pe Y (λac w' hf hs=>⟨_,?_,k+1,?_,?_,Y,hf.wk Y,hs⟩))))))))))
      ·omega
      ·omega
      ·refine AF hi ?_;exact cO b ‹_› (λi h=>hj i (by omega))
  ·refine Cx (Xx (Xx (Xe (Xt (Sr (p1 Y (ql A0M Y (λw' hs=>(QL (rA hs a) s)) λv20=>?_)))))));refine qv A0N Y (λw' hs=>(OV (rO (k:=0) hs Y) (jW ho))) (Pe Y (Ct (Rb Y Y ?_)));show((AW (l.map Stamp.Fact)):Bool)=_;exact A0q (λi h=>hi i (by omega))
theorem IZ{w:World}{g:Value}{a:(List Int)}{m:Value}{b:(List Int)}(c:Gd.rd w [g] a)(d:Gd.rd w [m] b):Cy 162 [g,m] w (Val w (.bool (decide (a=b)))):=by
 have z:=rM c;have a0:=rM d;refine enter 26 Tryz.func162 Y Y Y (Sr (Pe Y (Cq (Sr (p1 Y (dl BS Y (AE c) (p1 Y (dl BS Y (AE d) (Pe Y (Cn Y (λt=>?_) (λt=>?_)))))))))))
 ·refine Sr (Pe Y (Ct (Xr (Rb Y Y ?_))));simp;intro e;subst e;simp_all
 ·refine Sk (Cq (Sr (p1 Y (dl BS Y (AE c) (Pe Y (Cb (Cl (λm_ ac w'=>∃(k:Nat),(k<=a.length)/\(∀i,i<k->a[i]?=b[i]?)/\m_=a.length-k/\Fits ac 26 [(0,g),(1,m),(12,(nv a.length)),(13,(nv k))]/\St w ([]) w') ?_ ?_)))))))
  ·refine λac w' hf hs=>⟨_,0,?_,?_,Y,hf.wk Y,hs⟩
   ·omega
   ·intro i hi;omega
  ·rintro m_ ac w' ⟨k,hk,hi,rfl,hf,hs⟩;refine D.use ?_ hf hs;clear hf hs ac w';refine Sr (Pe Y (Cq (Cd Y (λu=>?_) (λu=>?_))))
   ·refine Sk (Cq (Cb (Sr (P2 Y Y (Dx (Cq (A0 mixed [] (by kernel_rfl) (tK 7 [0,1] Y ?_))))))));obtain⟨x5,o⟩:=sI a k;obtain⟨v,at8,x⟩:=AC (n:=1) rfl c o;obtain rfl:v=[.int .i64 x5]:=x;refine Tk 2 Y Y (AJ (l:=a) (j:=k) BS Y Y Y (λw' hs=>(rA hs c)) Y (lS o)) (Tk 3 Y Y (HI CJ Y Y at8 Y) (tK 3 [4,5] Y ?_));obtain⟨y,f⟩:=sI b k;obtain⟨p,q,r⟩:=AC (n:=1) rfl d f;obtain rfl:p=[.int .i64 y]:=r;refine Tk 6 Y Y (AJ (l:=b) (j:=k) BS Y Y Y (λw' hs=>(rA hs d)) Y (lS f)) (Tk 7 Y Y (HI CJ Y Y q Y) (tR 8 Y Y (tE (Xt (Cn Y (λs=>?_) (λs=>?_))))))
    ·refine Sr (Pe Y (Ct (Xq (Xr (Xr (Xq (Xr (Rb Y Y ?_))))))));simp;intro e;subst e;simp_all
    ·refine Ck (Xb (Xt (Cr (ad (k+1) Y (Pe Y (λac w' hf hs=>⟨_,?_,k+1,?_,?_,Y,hf.wk Y,hs⟩))))))
     ·omega
     ·omega
     ·exact DF hi ‹_› ‹_› (by simp_all)
   ·refine Cx (Xx (Xx (Xe (Xt (Sr (Pe Y (Ct (Rb Y Y ?_))))))));simp;exact C7 (by omega) (λi h=>hi i (by omega))
theorem MP{w:World}{g:Value}{a:(List Int)}{m:Value}{b:(List Int)}(c:Gd.rd w [g] a)(d:Gd.rd w [m] b):Cy 149 [g,m] w (Val w (.bool (decide (a=b)))):=by
 have z:=rM c;have a0:=rM d;refine enter 26 Tryz.func149 Y Y Y (Sr (Pe Y (Cq (Sr (p1 Y (dl BS Y (AE c) (p1 Y (dl BS Y (AE d) (Pe Y (Cn Y (λt=>?_) (λt=>?_)))))))))))
 ·refine Sr (Pe Y (Ct (Xr (Rb Y Y ?_))));simp;intro e;subst e;simp_all
 ·refine Sk (Cq (Sr (Pe Y (Cb (Cl (λm_ ac w'=>∃(k:Nat),(k<=a.length)/\(∀i,i<k->a[i]?=b[i]?)/\m_=a.length-k/\Fits ac 26 [(0,g),(1,m),(5,(nv k))]/\St w ([]) w') ?_ ?_)))))
  ·refine λac w' hf hs=>⟨_,0,?_,?_,Y,hf.wk Y,hs⟩
   ·omega
   ·intro i hi;omega
  ·rintro m_ ac w' ⟨k,hk,hi,rfl,hf,hs⟩;refine D.use ?_ hf hs;clear hf hs ac w';refine Cq (Sr (P2 Y Y (dl BS Y (AE c) (Pe Y (Cd Y (λu=>?_) (λu=>?_))))))
   ·refine Sk (Cq (Cb (Cq (A0 mixed [] (by kernel_rfl) (tK 7 [0,1] Y ?_)))));obtain⟨x5,o⟩:=sI a k;obtain⟨v,at8,x⟩:=AC (n:=1) rfl c o;obtain rfl:v=[.int .i64 x5]:=x;refine Tk 2 Y Y (AJ (l:=a) (j:=k) BS Y Y Y (λw' hs=>(rA hs c)) Y (lS o)) (Tk 3 Y Y (HI CJ Y Y at8 Y) (tK 3 [4,5] Y ?_));obtain⟨y,f⟩:=sI b k;obtain⟨p,q,r⟩:=AC (n:=1) rfl d f;obtain rfl:p=[.int .i64 y]:=r;refine Tk 6 Y Y (AJ (l:=b) (j:=k) BS Y Y Y (λw' hs=>(rA hs d)) Y (lS f)) (Tk 7 Y Y (HI CJ Y Y q Y) (tR 8 Y Y (tE (Xt (Cn Y (λs=>?_) (λs=>?_))))))
    ·refine Sr (Pe Y (Ct (Xq (Xr (Xr (Xq (Xr (Rb Y Y ?_))))))));simp;intro e;subst e;simp_all
    ·refine Ck (Xb (Xt (Cr (p1 Y (ad (k+1) Y (Pe Y (λac w' hf hs=>⟨_,?_,k+1,?_,?_,Y,hf.wk Y,hs⟩)))))))
     ·omega
     ·omega
     ·exact DF hi ‹_› ‹_› (by simp_all)
   ·refine Cx (Xx (Xx (Xe (Xt (Sr (Pe Y (Ct (Rb Y Y ?_))))))));simp;exact C7 (by omega) (λi h=>hi i (by omega))
theorem MQ{w:World}{c:List Value}{a:Firing}{d:List Value}{b:Firing}(g:Gd.rd w c a)(h:Gd.rd w d b):Cy 106 [(.agg c.toArray),(.agg d.toArray)] w (Val w (.bool (decide (a=b)))):=by
 obtain⟨j,rfl,e⟩:=BQ g;have k:=rM e;obtain⟨l,rfl,f⟩:=BQ h;have m:=rM f;refine enter 17 Tryz.func106 Y Y Y (Sr (bX Y λg7=>?_));refine bX Y λg8=>?_
 refine Pe Y (Dh ([bx g8 [(.string b.Rule),l],bx g7 [(.string a.Rule),j]]) Y (Sr (fl 1 IK BK Y (fl 0 IK BK Y (q1 Y (DO Y Y Y) (p1 Y (EY 10 Y Y (λi=>?_) (λi=>?_))))))))
 ·refine fl 1 HC H7 Y (fl 0 HC H7 Y (qv qA Y (λw' hs=>(IZ (rA hs e) (rA hs f))) (P2 Y Y (Dx (Ct (Rb Y Y ?_))))));show((decide (a.Times=b.Times)):Bool)=_
  cases a;cases b;simp_all
 ·refine n1 Y (n1 Y (n1 Y (n1 Y (n1 Y (P2 Y Y (Dx (Ct (Rb Y Y ?_))))))))
  cases a;cases b;simp_all
end Go.Sy.Num2
