/-
  Contracts of functions of the program, walked (printed by a program of ours).
  Conditions: those that each theorem states.
-/
import Derived.Test.YtbnpgdcpbmaebaaGreatDoorFct
import Derived.Test.YtbnpgdcpbmaebaaGreatDoorNum1
import Derived.Test.YtbnpgdcpbmaebaaGreatDoorNum
set_option linter.unusedVariables false
set_option maxRecDepth 20000
namespace Go.Sy.Num2
open Go Go.RowKit Go.Proofs Go.Sy
open Go.Sy.Bel1 Go.Sy.Ev1 Go.Sy.Fmt1 Go.Sy.Eng1 Go.Sy.Eng2 Go.Sy.Eng3 Go.Sy.Num1
theorem OV{w:World}{e:Value}{l:(List Fact)}(a:Gd.rd w [e] l)(x:LR P9 l):Cy 89 [e] w (Val w (.bool (AW l))):=by
 have y:=rM a;refine enter 36 Tryz.func89 Y Y Y (Sr (Pe Y (Cq (Sr (Pe Y (Cb (Cl (λm_ ac w'=>∃(k:Nat),(k<=l.length)/\(∀i,i<k->GA l i=true)/\m_=l.length-k/\Fits ac 36 [(0,e),(3,(nv k))]/\St w ([]) w') ?_ ?_)))))))
 ·refine λac w' hf hs=>⟨_,0,?_,?_,Y,hf.wk Y,hs⟩
  ·omega
  ·intro i hi;omega
 ·rintro m_ ac w' ⟨k,hk,hi,rfl,hf,hs⟩;refine D.use ?_ hf hs;clear hf hs ac w';refine Cq (Sr (P2 Y Y (dl C4N Y (AE a) (Pe Y (Cd Y (λq=>?_) (λq=>?_))))))
  ·refine Sk (Cq (Cb (Cq (A0 mixed [4,5,6,7,8,9,19,20,21,22] (by kernel_rfl) (tK 21 [0,1] Y ?_)))));obtain⟨f0,b⟩:=sI l k;obtain⟨z,at4,f⟩:=AC (n:=2) rfl a b;obtain⟨u6,rfl,s⟩:=AS f;have a0:=rM s;refine Tk 2 Y Y (AJ (l:=l) (j:=k) C4N Y Y Y (λw' hs=>(rA hs a)) Y (lS b)) (Tk 3 Y Y (EX B4Z Y Y at4) (ty 4 Y Y (cv pC Y Y Y Y (λw' hs=>(ER (rA hs f) (x _ (List.mem_of_getElem? b)))) ?_)));refine tZ Y (tW 5 Y Y Y (tW 6 Y Y Y (JQ 16 Y Y (λt=>?_) (λt=>?_))))
   ·refine tK 1 [7,8,9,10,11,12,13,14,15,16,17,18,19,20,21] Y (tW 22 Y Y Y (tE (Xt (AH [0,3,32] Y (GF Y (Sr (p1 Y (De ?_))))))));refine Xt (Ct (Xq (Xr (Xr (Xq (Xr (Rb Y Y ?_)))))));exact jV (k:=k) (by omega) (XH b ‹_›)
   ·refine tW 7 Y Y Y (tW 8 Y Y Y (tW 9 Y Y Y (EY 19 Y Y (λg=>?_) (λg=>?_))))
    ·refine tK 11 [10,11] Y (Tk 12 Y Y (B3 Y Y Y (r:=((k-1:Nat):Int)) (by omega) (by omega)) ?_);obtain⟨p0,c⟩:=sI l (k-1);obtain⟨u,m,d⟩:=AC (n:=2) rfl a c;obtain⟨a1,rfl,o⟩:=AS d;have v:=rM o;refine Tk 13 Y Y (AJ (l:=l) (j:=(k-1)) C4N Y Y Y (λw' hs=>(rA hs a)) Y (lS c)) (Tk 14 Y Y (EX B4Z Y Y m) (tK 6 [15,16] Y (Tk 17 Y Y (AJ (l:=l) (j:=k) C4N Y Y Y (λw' hs=>(rA hs a)) Y (lS b)) (Tk 18 Y Y (EX B4Z Y Y at4) (ty 19 Y Y (cv A7N Y Y Y Y (λw' hs=>(K3 (rA hs d) (rA hs f))) ?_))))));refine tZ Y (tW 20 Y Y Y (tW 21 Y Y Y (tW 22 Y Y Y (tE (Xt (AH [0,3,32] Y (Cd Y (λp=>?_) (λp=>?_))))))))
     ·refine Sr (Pe Y (Ct (Xq (Xr (Xr (Xq (Xr (Rb Y Y ?_))))))));exact jV (k:=k) (by omega) (XI b c (by omega) (by omega))
     ·refine Ck (Xb (Xt (Cr (p1 Y (ad (k+1) Y (Pe Y (λac w' hf hs=>⟨_,?_,k+1,?_,?_,Y,hf.wk Y,hs⟩)))))))
      ·omega
      ·omega
      ·refine AF hi ?_;exact UK b c (by omega) ‹_› (by omega)
    ·refine tK 2 [10,11,12,13,14,15,16,17,18,19,20] Y (tW 21 Y Y Y (tW 22 Y Y Y (tE (Xt (AH [0,3,32] Y (G7 Y (Ck (Xb (Xt (Cr (p1 Y (ad (k+1) Y (p1 Y ?_)))))))))))));refine Dx (λac w' hf hs=>⟨_,?_,k+1,?_,?_,Y,hf.wk Y,hs⟩)
     ·omega
     ·omega
     ·refine AF hi ?_;exact UJ b ‹_› (by omega)
  ·refine Cx (Xx (Xx (Xe (Xt (Sr (p1 Y (dl C4N Y (AE a) (P2 Y Y (Dx (Ct (Rb Y Y ?_)))))))))));show((decide ((((l.length:Nat):Int):Int)<=24)):Bool)=_;exact A7d (λi h=>hi i (by omega))
theorem I1{w:World}{a:List Value}{f:Fact}(e:Gd.rd w a f)(hp:F9 f<=1048576):Cy 86 [(.agg a.toArray)] w (HH w (f:Fact)):=by
 obtain⟨g,rfl,b⟩:=AS e;have h:=rM b;unfold F9 M9 at hp;refine enter 9 Tryz.func86 Y Y Y (Sr (bX Y λg4=>?_));refine aL B4n Y λg5=>?_
 refine Dx (Dh ([bx g5 [(.string ⟨#[]⟩),(.slice none 0 0)],bx g4 [(.string f.Rel),g]]) Y (Cq (A0 mixed [6] (by kernel_rfl) (Tk 0 Y Y (Db B5C Y Y (q:=0) Y) (Tk 1 Y Y (lb 1 BK Y Y Y Y) (Tk 2 Y Y (Db C4L Y Y (q:=1) Y) (Tk 3 Y Y (lb 1 C4Q Y Y Y Y) (ty 4 Y Y (YJ M1 Y Y Y Y (λw' hs=>(KB (rA hs b) (by omega))) λc=>?_)))))))));refine tS (λ_ hs=>hs.pk [1,2] Y Y) (Dp (λw' hs=>CZ (k:=0) hs Y) ?_);intro d;refine Tj 5 Y Y (λ_ hs=>hs.pk [1,2] Y Y) (FJ (vs:=[(0,(.string f.Rel)),(1,c)]) (xs:=[(0,[(.string f.Rel)]),(1,[c])]) (cs:=[(.string f.Rel),c]) B8i Y ⟨Y,Y,⟨Y,(AO d),trivial⟩⟩ Y Y) (ty 6 Y Y (AZ (vs:=[(.string f.Rel),c]) (cs':=[(.string f.Rel),c]) 1 B5j Y Y Y Y Y Y (AB Y (AB d BR)) (by simp) Y ?_));refine tZ Y (tE (Xt (Ct (S4 (r:=(f:Fact)) (eW 1 B4Z Y Y Y λw' hs=>A7 (k:=0) hs Y ?_)))));show(f:Fact)=f;rfl
theorem K4{w:World}{a:List Value}{f:Fact}(e:Gd.rd w a f)(hp:F9 f<=1048576):Cy 146 [(.agg a.toArray)] w (HH w (f:Fact)):=by
 obtain⟨g,rfl,b⟩:=AS e;have h:=rM b;unfold F9 M9 at hp;refine enter 9 Tryz.func146 Y Y Y (Sr (bX Y λg4=>?_));refine aL B4n Y λg5=>?_
 refine Dx (Dh ([bx g5 [(.string ⟨#[]⟩),(.slice none 0 0)],bx g4 [(.string f.Rel),g]]) Y (Cq (A0 mixed [6] (by kernel_rfl) (Tk 0 Y Y (Db B5C Y Y (q:=0) Y) (Tk 1 Y Y (lb 1 BK Y Y Y Y) (Tk 2 Y Y (Db C4L Y Y (q:=1) Y) (Tk 3 Y Y (lb 1 C4Q Y Y Y Y) (ty 4 Y Y (YJ qL Y Y Y Y (λw' hs=>(ZE (rA hs b) (by omega))) λc=>?_)))))))));refine tS (λ_ hs=>hs.pk [1,2] Y Y) (Dp (λw' hs=>CZ (k:=0) hs Y) ?_);intro d;refine Tj 5 Y Y (λ_ hs=>hs.pk [1,2] Y Y) (FJ (vs:=[(0,(.string f.Rel)),(1,c)]) (xs:=[(0,[(.string f.Rel)]),(1,[c])]) (cs:=[(.string f.Rel),c]) B8i Y ⟨Y,Y,⟨Y,(AO d),trivial⟩⟩ Y Y) (ty 6 Y Y (AZ (vs:=[(.string f.Rel),c]) (cs':=[(.string f.Rel),c]) 1 B5j Y Y Y Y Y Y (AB Y (AB d BR)) (by simp) Y ?_));refine tZ Y (tE (Xt (Ct (S4 (r:=(f:Fact)) (eW 1 B4Z Y Y Y λw' hs=>A7 (k:=0) hs Y ?_)))));show(f:Fact)=f;rfl
theorem QL{w:World}{d:Value}{l:(List Stamp)}(a:Gd.rd w [d] l)(t:DD CM l<=1048576):Cy 83 [d] w (HH w (l.map Stamp.Fact:List Fact)):=by
 have u:=rM a;unfold DD at t;refine enter 22 Tryz.func83 Y Y Y (Sr (Pe Y (Sr (li Y (FL (α:=Fact) C4N Y Y Y λv2=>?_)))));refine Pe Y (Dh ([ov [v2] ([]:(List Fact))]) Y (Cq (Sr (Pe Y (Cb (Cl (λm_ ac w'=>∃(k:Nat),∃(v:Value),(k<=l.length)/\m_=l.length-k/\Fits ac 22 [(0,d),(3,v),(4,(nv k))]/\St w ([ov [v] ((l.take k).map Stamp.Fact:(List Fact))]) w') ?_ ?_))))))
 ·refine A3 0 Y (show([]:(List Fact))=(l.take 0).map Stamp.Fact from by simp) (λac w' hf hs=>⟨_,0,v2,?_,Y,hf.wk Y,hs⟩)
  ·omega
 ·rintro m_ ac w' ⟨k,v,hk,rfl,hf,hs⟩;refine D.use ?_ hf hs;clear hf hs ac w';have hcl:((l.take k).map Stamp.Fact).length<=k:=by rw[List.length_map,List.length_take];omega
  refine Cq (Sr (P2 Y Y (dl C1h Y (AE a) (Pe Y (Dh ([_]) Y (Cd Y (λm=>?_) (λm=>?_)))))))
  ·refine Sk (Cq (Cb (Cr (P3 Y Y Y ?_))));obtain⟨i,b⟩:=sI l k;have hle:=C8 (c:=CM) (List.mem_of_getElem? b);have q:CM i=F9 i.Fact:=rfl;obtain⟨x,o,e⟩:=AC (n:=3) rfl a b;obtain⟨z,rfl,p⟩:=B9 e;have y:=rM p;have g:=BE e;refine q1 Y (AJ (l:=l) (j:=k) C1h Y Y Y (λw' hs=>(rA hs a)) Y (lS b)) (q1 Y (B2 C1v Y Y) (q1 Y (EX B4Z Y Y (Q1 (f:=0) (n:=2) o Y)) (qs Y pX Y (λw' hs=>(K4 (rA hs g) (by omega))) λr=>?_)));refine Dp (λw' hs=>EZ (rO (k:=0) hs Y)) ?_;rintro⟨v12,rfl,s⟩;refine li Y (FF C4N B4n Y (by decide) (by decide) Y Y Y Y Y Y λg14=>?_);refine AG [2,1,0] Y (li Y (GZ C4N B4n Y (by decide) Y Y Y Y Y Y (by omega) (by omega) λh=>?_));refine p1 Y (De (Xb (Xt (Dh ([ov [h] (((l.take k).map Stamp.Fact)++ [i.Fact]:(List Fact))]) Y (Cr (p1 Y (ad (k+1) Y (Pe Y (A3 0 Y (show(((l.take k).map Stamp.Fact)++ [i.Fact]:(List Fact))=(l.take (k+1)).map Stamp.Fact from by rw[A1 b,List.map_append];rfl) (λac w' hf hs=>⟨_,?_,k+1,h,?_,Y,hf.wk Y,hs⟩))))))))))
   ·omega
   ·omega
  ·refine Cx (Xx (Xx (Xe (Xt (Sr (P2 Y Y (Dx (Ct (FV Y Y λw' hs=>A7 (k:=0) hs Y ?_)))))))));show(l.take k).map Stamp.Fact=l.map Stamp.Fact;rw[List.take_of_length_le (by omega)]
theorem OX{w:World}{c:Value}{l:(List Stamp)}(a:Gd.rd w [c] l)(v:DD CM l<=1048576)(ho:LR MA l):Cy 29 [c] w (Val w (.bool (C5 l))):=by
 have a1:=rM a;have s:=v;unfold DD at v;refine enter 37 Tryz.func29 Y Y Y (Sr (Pe Y (Cq (Sr (Pe Y (Cb (Cl (λm_ ac w'=>∃(k:Nat),(k<=l.length)/\(∀i,i<k->HE l i=true)/\m_=l.length-k/\Fits ac 37 [(0,c),(3,(nv k))]/\St w ([]) w') ?_ ?_)))))))
 ·refine λac w' hf hs=>⟨_,0,?_,?_,Y,hf.wk Y,hs⟩
  ·omega
  ·intro i hi;omega
 ·rintro m_ ac w' ⟨k,hk,hi,rfl,hf,hs⟩;refine D.use ?_ hf hs;clear hf hs ac w';refine Cq (Sr (P2 Y Y (dl C1h Y (AE a) (Pe Y (Cd Y (λt=>?_) (λt=>?_))))))
  ·refine Sk (Cq (Cb (Cq (Sr (P2 Y Y ?_)))));obtain⟨s0,b⟩:=sI l k;obtain⟨a2,at4,f⟩:=AC (n:=3) rfl a b;obtain⟨u6,rfl,u⟩:=B9 f;have a3:=rM u;have a4:=BE f;refine q1 Y (AJ (l:=l) (j:=k) C1h Y Y Y (λw' hs=>(rA hs a)) Y (lS b)) (q1 Y (B2 C1n Y Y) (q1 Y (lr CJ Y Y at4 Y) (qv B4A Y (λw' hs=>E7) (Pe Y (CN Y (λg=>?_) (λg=>?_))))))
   ·refine Sr (Pe Y (Ct (Xr (Xq (Xr (Xr (Xq (Xr (Rb Y Y ?_)))))))));exact cP (k:=k) (lS b) (RN b ‹_›)
   ·refine Sk (Sr (Pe Y (Cb (Cl (λm_ ac w'=>∃(j:Nat),(j<=k)/\(∀i,i<j->∀q,l[i]?=some q->q.Time≠s0.Time)/\m_=k-j/\Fits ac 37 [(0,c),(3,(nv k)),(4,(nv j))]/\St w ([]) w') ?_ ?_))))
    ·refine λac w' hf hs=>⟨_,0,?_,?_,Y,hf.wk Y,hs⟩
     ·omega
     ·intro i hi;omega
    ·rintro m_ ac w' ⟨j,hjk,hj,rfl,hf,hs⟩;refine D.use ?_ hf hs;clear hf hs ac w';refine Cq (Sr (P3 Y Y Y (Dx (Cd Y (λm=>?_) (λm=>?_)))))
     ·refine Sk (Cq (Cb (Cq (A0 mixed [] (by kernel_rfl) (tK 9 [0,1] Y ?_)))));obtain⟨q0,d⟩:=sI l j;obtain⟨x,o,e⟩:=AC (n:=3) rfl a d;obtain⟨a5,rfl,p⟩:=B9 e;have z:=rM p;have a0:=BE e;refine Tk 2 Y Y (AJ (l:=l) (j:=j) C1h Y Y Y (λw' hs=>(rA hs a)) Y (lS d)) (Tk 3 Y Y (B2 C1n Y Y) (Tk 4 Y Y (lr CJ Y Y o Y) (tK 4 [5,6] Y (Tk 7 Y Y (AJ (l:=l) (j:=k) C1h Y Y Y (λw' hs=>(rA hs a)) Y (lS b)) (Tk 8 Y Y (B2 C1n Y Y) (Tk 9 Y Y (lr CJ Y Y at4 Y) (tR 10 Y Y (tE (Xt (Ce Y (λr=>?_) (λr=>?_)))))))))))
      ·refine Sr (Pe Y (Ct (Xq (Xr (Xr (Xq (Xq (Xr (Xr (Xq (Xr (Rb Y Y ?_))))))))))));exact cP (k:=k) (lS b) (XK b d (by omega) ‹_›)
      ·refine Ck (Xb (Xt (Cr (p1 Y (ad (j+1) Y (Pe Y (λac w' hf hs=>⟨_,?_,j+1,?_,?_,Y,hf.wk Y,hs⟩)))))))
       ·omega
       ·omega
       ·refine AF hj ?_;intro y hy;obtain rfl:y=q0:=Option.some.inj (hy.symm.trans d);omega
     ·refine Cx (Xx (Xx (Xe (Xb (Xt (Cr (p1 Y (ad (k+1) Y (Pe Y (λac w' hf hs=>⟨_,?_,k+1,?_,?_,Y,hf.wk Y,hs⟩))))))))))
      ·omega
      ·omega
      ·refine AF hi ?_;exact cO b ‹_› (λi h=>hj i (by omega))
  ·refine Cx (Xx (Xx (Xe (Xt (Sr (p1 Y (ql A7K Y (λw' hs=>(QL (rA hs a) s)) λv20=>?_)))))));refine qv A4M Y (λw' hs=>(OV (rO (k:=0) hs Y) (jW ho))) (Pe Y (Ct (Rb Y Y ?_)));show((AW (l.map Stamp.Fact)):Bool)=_;exact A0q (λi h=>hi i (by omega))
end Go.Sy.Num2
