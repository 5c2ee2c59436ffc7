/-
  Contracts of functions of the program, walked (printed by a program of ours).
  Conditions: those that each theorem states.
-/
import Derived.Test.YtbnpgdcpbmaebaaGreatDoorFct
import Derived.Test.YtbnpgdcpbmaebaaGreatDoorNum1
import Derived.Test.YtbnpgdcpbmaebaaGreatDoorNum
set_option linter.unusedVariables false
set_option maxRecDepth 20000
namespace Go.Sy.Num2
open Go Go.RowKit Go.Proofs Go.Sy
open Go.Sy.Bel1 Go.Sy.Ev1 Go.Sy.Fmt1 Go.Sy.Eng1 Go.Sy.Eng2 Go.Sy.Eng3 Go.Sy.Num1
theorem WB{w:World}{c:Value}{l:(List Fact)}(a:Gd.rd w [c] l)(t:Tb w):Cy 40 [c] w (Val w (.bool (AW l))):=by
 have a2:=rM a;refine enter 33 Tryz.func40 Y Y Y (Sr (Pe Y (Cq (Sr (p1 Y (dl hZ Y (AE a) (Pe Y (Cd Y (λu=>?_) (λu=>?_)))))))))
 ·refine Sr (Pe Y (Ct (Xr (Rb Y Y ?_))));exact A5a (by omega)
 ·refine Sk (Cq (Sr (p1 Y (dl hZ Y (AE a) (Pe Y (Cb (Cl (λm_ ac w'=>∃(k:Nat),(k<=l.length)/\(∀i,i<k->GA l i=true)/\m_=l.length-k/\Fits ac 33 [(0,c),(8,c),(9,(nv l.length)),(10,(nv k))]/\St w ([]) w') ?_ ?_)))))))
  ·refine λac w' hf hs=>⟨_,0,?_,?_,Y,hf.wk Y,hs⟩
   ·omega
   ·intro i hi;omega
  ·rintro m_ ac w' ⟨k,hk,hi,rfl,hf,hs⟩;refine D.use ?_ hf hs;clear hf hs ac w';refine Sr (Pe Y (Cq (Cd Y (λv=>?_) (λv=>?_))))
   ·refine Sk (Cq (Cb (Sr (p1 Y ?_))));obtain⟨x,b⟩:=sI l k;obtain⟨a3,y,f⟩:=AC (n:=2) rfl a b;obtain⟨z,rfl,g⟩:=AS f;have a4:=rM g;refine q1 Y (AJ (l:=l) (j:=k) hZ Y Y Y (λw' hs=>(rA hs a)) Y (lS b)) (q1 Y (EX B4Z Y Y y) (aL B4n Y λg10=>?_));refine p1 Y (li Y (AZ (vs:=[(.string x.Rel),z]) (cs':=[(.string x.Rel),z]) 0 B5j Y Y Y Y Y Y (AB Y (AB (A2 g) BR)) (by simp) Y ?_));refine Dx (Dh ([bx g10 [(.string x.Rel),z]]) Y (Cq (A0 mixed [1,2,3,4,5,6,13,14,15,16] (by kernel_rfl) (Tk 0 Y Y (C9 0 B4Z Y Y Y) (ty 1 Y Y (cv A6U Y Y Y Y (λw' hs=>(EQ (rA hs f))) ?_))))));refine tZ Y (tW 2 Y Y Y (tW 3 Y Y Y (JQ 18 Y Y (λm=>?_) (λm=>?_))))
    ·refine tK 1 [4,5,6,7,8,9,10,11,12,13,14,15] Y (tW 16 Y Y Y (tE (Xt (AH [0,8,9,10,31] Y (AG [] Y (GF Y (Sr (Pe Y (Ct ?_)))))))));refine Xq (Xr (Xr (Xq (Xr (Rb Y Y ?_)))));exact jV (k:=k) (by omega) (XH b ‹_›)
    ·refine tW 4 Y Y Y (tW 5 Y Y Y (tW 6 Y Y Y (EY 21 Y Y (λo=>?_) (λo=>?_))))
     ·refine tK 8 [7,8] Y (Tk 9 Y Y (B3 Y Y Y (r:=((k-1:Nat):Int)) (by omega) (by omega)) ?_);obtain⟨p0,d⟩:=sI l (k-1);obtain⟨a0,p,e⟩:=AC (n:=2) rfl a d;obtain⟨a5,rfl,q⟩:=AS e;have a1:=rM q;refine Tk 10 Y Y (AJ (l:=l) (j:=(k-1)) hZ Y Y Y (λw' hs=>(rA hs a)) Y (lS d)) (Tk 11 Y Y (EX B4Z Y Y p) (Tk 12 Y Y (C9 0 B4Z Y Y Y) (ty 13 Y Y (cv A4x Y Y Y Y (λw' hs=>(K2 (rA hs e) (rA hs f) (Tb.ext t hs.bel))) ?_))));refine tZ Y (tW 14 Y Y Y (tW 15 Y Y Y (tW 16 Y Y Y (tE (Xt (AH [0,8,9,10,31] Y (AG [] Y (Cd Y (λs=>?_) (λs=>?_)))))))))
      ·refine Sr (Pe Y (Ct (Xq (Xr (Xr (Xq (Xr (Rb Y Y ?_))))))));exact jV (k:=k) (by omega) (XI b d (by omega) (by omega))
      ·refine Ck (Xb (Xt (Cr (ad (k+1) Y (Pe Y (λac w' hf hs=>⟨_,?_,k+1,?_,?_,Y,hf.wk Y,hs⟩))))))
       ·omega
       ·omega
       ·refine AF hi ?_;exact UK b d (by omega) ‹_› (by omega)
     ·refine tK 2 [7,8,9,10,11,12,13,14] Y (tW 15 Y Y Y (tW 16 Y Y Y (tE (Xt (AH [0,8,9,10,31] Y (AG [] Y (G7 Y (Ck (Xb (Xt (Cr (ad (k+1) Y (Pe Y (λac w' hf hs=>⟨_,?_,k+1,?_,?_,Y,hf.wk Y,hs⟩))))))))))))))
      ·omega
      ·omega
      ·refine AF hi ?_;exact UJ b ‹_› (by omega)
   ·refine Cx (Xx (Xx (Xe (Xt (Sr (Pe Y (Ct (Rb Y Y ?_))))))));exact A7c (by omega) (λi h=>hi i (by omega))
theorem OV{w:World}{e:Value}{l:(List Fact)}(a:Gd.rd w [e] l)(x:LR P9 l):Cy 89 [e] w (Val w (.bool (AW l))):=by
 have y:=rM a;refine enter 36 Tryz.func89 Y Y Y (Sr (Pe Y (Cq (Sr (Pe Y (Cb (Cl (λm_ ac w'=>∃(k:Nat),(k<=l.length)/\(∀i,i<k->GA l i=true)/\m_=l.length-k/\Fits ac 36 [(0,e),(3,(nv k))]/\St w ([]) w') ?_ ?_)))))))
 ·refine λac w' hf hs=>⟨_,0,?_,?_,Y,hf.wk Y,hs⟩
  ·omega
  ·intro i hi;omega
 ·rintro m_ ac w' ⟨k,hk,hi,rfl,hf,hs⟩;refine D.use ?_ hf hs;clear hf hs ac w';refine Cq (Sr (P2 Y Y (dl hZ Y (AE a) (Pe Y (Cd Y (λq=>?_) (λq=>?_))))))
  ·refine Sk (Cq (Cb (Cq (A0 mixed [4,5,6,7,8,9,19,20,21,22] (by kernel_rfl) (tK 21 [0,1] Y ?_)))));obtain⟨f0,b⟩:=sI l k;obtain⟨z,at4,f⟩:=AC (n:=2) rfl a b;obtain⟨u6,rfl,s⟩:=AS f;have a0:=rM s;refine Tk 2 Y Y (AJ (l:=l) (j:=k) hZ Y Y Y (λw' hs=>(rA hs a)) Y (lS b)) (Tk 3 Y Y (EX B4Z Y Y at4) (ty 4 Y Y (cv pC Y Y Y Y (λw' hs=>(ER (rA hs f) (x _ (List.mem_of_getElem? b)))) ?_)));refine tZ Y (tW 5 Y Y Y (tW 6 Y Y Y (JQ 16 Y Y (λt=>?_) (λt=>?_))))
   ·refine tK 1 [7,8,9,10,11,12,13,14,15,16,17,18,19,20,21] Y (tW 22 Y Y Y (tE (Xt (AH [0,3,32] Y (GF Y (Sr (p1 Y (De ?_))))))));refine Xt (Ct (Xq (Xr (Xr (Xq (Xr (Rb Y Y ?_)))))));exact jV (k:=k) (by omega) (XH b ‹_›)
   ·refine tW 7 Y Y Y (tW 8 Y Y Y (tW 9 Y Y Y (EY 19 Y Y (λg=>?_) (λg=>?_))))
    ·refine tK 11 [10,11] Y (Tk 12 Y Y (B3 Y Y Y (r:=((k-1:Nat):Int)) (by omega) (by omega)) ?_);obtain⟨p0,c⟩:=sI l (k-1);obtain⟨u,m,d⟩:=AC (n:=2) rfl a c;obtain⟨a1,rfl,o⟩:=AS d;have v:=rM o;refine Tk 13 Y Y (AJ (l:=l) (j:=(k-1)) hZ Y Y Y (λw' hs=>(rA hs a)) Y (lS c)) (Tk 14 Y Y (EX B4Z Y Y m) (tK 6 [15,16] Y (Tk 17 Y Y (AJ (l:=l) (j:=k) hZ Y Y Y (λw' hs=>(rA hs a)) Y (lS b)) (Tk 18 Y Y (EX B4Z Y Y at4) (ty 19 Y Y (cv A7N Y Y Y Y (λw' hs=>(K3 (rA hs d) (rA hs f))) ?_))))));refine tZ Y (tW 20 Y Y Y (tW 21 Y Y Y (tW 22 Y Y Y (tE (Xt (AH [0,3,32] Y (Cd Y (λp=>?_) (λp=>?_))))))))
     ·refine Sr (Pe Y (Ct (Xq (Xr (Xr (Xq (Xr (Rb Y Y ?_))))))));exact jV (k:=k) (by omega) (XI b c (by omega) (by omega))
     ·refine Ck (Xb (Xt (Cr (p1 Y (ad (k+1) Y (Pe Y (λac w' hf hs=>⟨_,?_,k+1,?_,?_,Y,hf.wk Y,hs⟩)))))))
      ·omega
      ·omega
      ·refine AF hi ?_;exact UK b c (by omega) ‹_› (by omega)
    ·refine tK 2 [10,11,12,13,14,15,16,17,18,19,20] Y (tW 21 Y Y Y (tW 22 Y Y Y (tE (Xt (AH [0,3,32] Y (G7 Y (Ck (Xb (Xt (Cr (p1 Y (ad (k+1) Y (p1 Y ?_)))))))))))));refine Dx (λac w' hf hs=>⟨_,?_,k+1,?_,?_,Y,hf.wk Y,hs⟩)
     ·omega
     ·omega
     ·refine AF hi ?_;exact UJ b ‹_› (by omega)
  ·refine Cx (Xx (Xx (Xe (Xt (Sr (p1 Y (dl hZ Y (AE a) (P2 Y Y (Dx (Ct (Rb Y Y ?_)))))))))));show((decide ((((l.length:Nat):Int):Int)<=24)):Bool)=_;exact A7d (λi h=>hi i (by omega))
theorem I1{w:World}{a:List Value}{f:Fact}(e:Gd.rd w a f)(hp:F9 f<=1048576):Cy 86 [(.agg a.toArray)] w (HH w (f:Fact)):=by
 obtain⟨g,rfl,b⟩:=AS e;have h:=rM b;unfold F9 M9 at hp;refine enter 9 Tryz.func86 Y Y Y (Sr (bX Y λg4=>?_));refine aL B4n Y λg5=>?_
 refine Dx (Dh ([bx g5 [(.string ⟨#[]⟩),(.slice none 0 0)],bx g4 [(.string f.Rel),g]]) Y (Cq (A0 mixed [6] (by kernel_rfl) (Tk 0 Y Y (Db B5C Y Y (q:=0) Y) (Tk 1 Y Y (lb 1 BK Y Y Y Y) (Tk 2 Y Y (Db fR Y Y (q:=1) Y) (Tk 3 Y Y (lb 1 lX Y Y Y Y) (ty 4 Y Y (YJ M1 Y Y Y Y (λw' hs=>(KB (rA hs b) (by omega))) λc=>?_)))))))));refine tS (λ_ hs=>hs.pk [1,2] Y Y) (Dp (λw' hs=>CZ (k:=0) hs Y) ?_);intro d;refine Tj 5 Y Y (λ_ hs=>hs.pk [1,2] Y Y) (FJ (vs:=[(0,(.string f.Rel)),(1,c)]) (xs:=[(0,[(.string f.Rel)]),(1,[c])]) (cs:=[(.string f.Rel),c]) B8i Y ⟨Y,Y,⟨Y,(AO d),trivial⟩⟩ Y Y) (ty 6 Y Y (AZ (vs:=[(.string f.Rel),c]) (cs':=[(.string f.Rel),c]) 1 B5j Y Y Y Y Y Y (AB Y (AB d BR)) (by simp) Y ?_));refine tZ Y (tE (Xt (Ct (S4 (r:=(f:Fact)) (eW 1 B4Z Y Y Y λw' hs=>A7 (k:=0) hs Y ?_)))));show(f:Fact)=f;rfl
theorem K4{w:World}{a:List Value}{f:Fact}(e:Gd.rd w a f)(hp:F9 f<=1048576):Cy 146 [(.agg a.toArray)] w (HH w (f:Fact)):=by
 obtain⟨g,rfl,b⟩:=AS e;have h:=rM b;unfold F9 M9 at hp;refine enter 9 Tryz.func146 Y Y Y (Sr (bX Y λg4=>?_));refine aL B4n Y λg5=>?_
 refine Dx (Dh ([bx g5 [(.string ⟨#[]⟩),(.slice none 0 0)],bx g4 [(.string f.Rel),g]]) Y (Cq (A0 mixed [6] (by kernel_rfl) (Tk 0 Y Y (Db B5C Y Y (q:=0) Y) (Tk 1 Y Y (lb 1 BK Y Y Y Y) (Tk 2 Y Y (Db fR Y Y (q:=1) Y) (Tk 3 Y Y (lb 1 lX Y Y Y Y) (ty 4 Y Y (YJ qL Y Y Y Y (λw' hs=>(ZE (rA hs b) (by omega))) λc=>?_)))))))));refine tS (λ_ hs=>hs.pk [1,2] Y Y) (Dp (λw' hs=>CZ (k:=0) hs Y) ?_);intro d;refine Tj 5 Y Y (λ_ hs=>hs.pk [1,2] Y Y) (FJ (vs:=[(0,(.string f.Rel)),(1,c)]) (xs:=[(0,[(.string f.Rel)]),(1,[c])]) (cs:=[(.string f.Rel),c]) B8i Y ⟨Y,Y,⟨Y,(AO d),trivial⟩⟩ Y Y) (ty 6 Y Y (AZ (vs:=[(.string f.Rel),c]) (cs':=[(.string f.Rel),c]) 1 B5j Y Y Y Y Y Y (AB Y (AB d BR)) (by simp) Y ?_));refine tZ Y (tE (Xt (Ct (S4 (r:=(f:Fact)) (eW 1 B4Z Y Y Y λw' hs=>A7 (k:=0) hs Y ?_)))));show(f:Fact)=f;rfl
end Go.Sy.Num2
