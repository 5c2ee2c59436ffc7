/-
  Contracts of functions of the program, walked (printed by a program of ours).
  Conditions: those that each theorem states.
-/
import Derived.Test.YtbnpgdcpbmaebaaGreatDoorFct
import Derived.Test.YtbnpgdcpbmaebaaGreatDoorEng3
import Derived.Test.YtbnpgdcpbmaebaaGreatDoorBel1
import Derived.Test.YtbnpgdcpbmaebaaGreatDoorRul
import Derived.Test.YtbnpgdcpbmaebaaGreatDoorEv3
import Derived.Test.YtbnpgdcpbmaebaaGreatDoorNum2
import Derived.Test.YtbnpgdcpbmaebaaGreatDoorCho
import Derived.Test.YtbnpgdcpbmaebaaGreatDoorProg
import Derived.Test.YtbnpgdcpbmaebaaGreatDoorTypes
import Derived.Test.YtbnpgdcpbmaebaaGreatDoorBase
import Derived.Test.YtbnpgdcpbmaebaaGreatDoorPdq
import Derived.Test.YtbnpgdcpbmaebaaGreatDoorShelf
set_option linter.unusedVariables false
set_option maxRecDepth 20000
namespace Go.Sy.Cho2
open Go Go.RowKit Go.Proofs Go.Sy
open Go.Sy.Bel1 Go.Sy.Ev1 Go.Sy.Ev3 Go.Sy.Fmt1 Go.Sy.Eng1 Go.Sy.Eng2 Go.Sy.Eng3 Go.Sy.Num1 Go.Sy.Num2
theorem NT{w:World}{d:Value}{l:(List Fact)}(a:Gd.rd w [d] l)(q:DD F9 l<=1048576):Cy 183 [d] w (HH w (l:List Fact)):=by
 have r:=rM a;unfold DD at q;refine enter 19 Tryz.func183 Y Y Y (Sr (Pe Y (Sr (Pe Y (Cq (Sr (p1 Y (dl hZ Y (AE a) (Pe Y (Cb (Cl (λm_ ac w'=>∃(k:Nat),∃(v:Value),(k<=l.length)/\m_=l.length-k/\Fits ac 19 [(3,v),(6,d),(7,(nv l.length)),(8,(nv k))]/\St w ([ov [v] (l.take k:(List Fact))]) w') ?_ ?_)))))))))))
 ·refine CG (α:=Fact) (A3 0 Y (show([]:(List Fact))=l.take 0 from by simp) (λac w' hf hs=>⟨_,0,(.slice none 0 0),?_,Y,hf.wk Y,hs⟩))
  ·omega
 ·rintro m_ ac w' ⟨k,v,hk,rfl,hf,hs⟩;refine D.use ?_ hf hs;clear hf hs ac w';have hcl:(l.take k).length<=k:=by rw[List.length_take];omega
  refine Sr (Pe Y (Dh ([_]) Y (Cq (Cd Y (λi=>?_) (λi=>?_)))))
  ·refine Sk (Cq (Cb (Sr ?_)));obtain⟨e,b⟩:=sI l k;have hle:=C8 (c:=F9) (List.mem_of_getElem? b);obtain⟨s,at4,f⟩:=AC (n:=2) rfl a b;obtain⟨m,rfl,g⟩:=AS f;have t:=rM g;refine q1 Y (AJ (l:=l) (j:=k) hZ Y Y Y (λw' hs=>(rA hs a)) Y (lS b)) (q1 Y (EX B4Z Y Y at4) (aL B4n Y λg9=>?_));refine li Y (AZ (vs:=[(.string e.Rel),m]) (cs':=[(.string e.Rel),m]) 0 B5j Y Y Y Y Y Y (AB Y (AB (A2 g) BR)) (by simp) Y ?_);refine Dx (Dh ([bx g9 [(.string e.Rel),m],_]) Y (Cr (p1 Y (q1 Y (C9 0 B4Z Y Y Y) (qs Y B2w Y (λw' hs=>(I1 (rA hs f) (by omega))) λo=>?_)))));refine Dp (λw' hs=>EZ (rO (k:=0) hs Y)) ?_;rintro⟨u,rfl,p⟩;refine li Y (FF hZ B4n Y (by decide) (by decide) Y Y Y Y Y Y λg13=>?_);refine AG [3,1,0,2] Y (li Y (GZ hZ B4n Y (by decide) Y Y Y Y Y Y (by omega) (by omega) λh=>?_));refine p1 Y (De (Xb (Xt (Dh ([ov [h] ((l.take k)++ [e]:(List Fact)),_]) Y (Cr (ad (k+1) Y (Pe Y (A3 0 Y (show((l.take k)++ [e]:(List Fact))=l.take (k+1) from by exact(A1 b).symm) (λac w' hf hs=>⟨_,?_,k+1,h,?_,Y,hf.wk Y,hs.pk [0] Y Y⟩)))))))))
   ·omega
   ·omega
  ·refine Cx (Xx (Xx (Xe (Xt (Sr (P2 Y Y (Dx (Ct (FV Y Y λw' hs=>A7 (k:=0) hs Y ?_)))))))));show l.take k=l;rw[List.take_of_length_le (by omega)]
theorem LK{w:World}{d:Value}{l:(List Fact)}(a:Gd.rd w [d] l)(q:DD F9 l<=1048576):Cy 195 [d] w (HH w (l:List Fact)):=by
 have r:=rM a;unfold DD at q;refine enter 21 Tryz.func195 Y Y Y (Sr (Pe Y (Sr (li Y (FL (α:=Fact) hZ Y Y Y λv2=>?_)))));refine Pe Y (Dh ([ov [v2] ([]:(List Fact))]) Y (Cq (Sr (Pe Y (Cb (Cl (λm_ ac w'=>∃(k:Nat),∃(v:Value),(k<=l.length)/\m_=l.length-k/\Fits ac 21 [(0,d),(3,v),(4,(nv k))]/\St w ([ov [v] (l.take k:(List Fact))]) w') ?_ ?_))))))
 ·refine A3 0 Y (show([]:(List Fact))=l.take 0 from by simp) (λac w' hf hs=>⟨_,0,v2,?_,Y,hf.wk Y,hs⟩)
  ·omega
 ·rintro m_ ac w' ⟨k,v,hk,rfl,hf,hs⟩;refine D.use ?_ hf hs;clear hf hs ac w';have hcl:(l.take k).length<=k:=by rw[List.length_take];omega
  refine Cq (Sr (P2 Y Y (dl hZ Y (AE a) (Pe Y (Dh ([_]) Y (Cd Y (λg=>?_) (λg=>?_)))))))
  ·refine Sk (Cq (Cb (Cr (P3 Y Y Y ?_))));obtain⟨m,b⟩:=sI l k;have hle:=C8 (c:=F9) (List.mem_of_getElem? b);obtain⟨s,h,e⟩:=AC (n:=2) rfl a b;obtain⟨x,rfl,i⟩:=AS e;have t:=rM i;refine q1 Y (AJ (l:=l) (j:=k) hZ Y Y Y (λw' hs=>(rA hs a)) Y (lS b)) (q1 Y (EX B4Z Y Y h) (qs Y pX Y (λw' hs=>(K4 (rA hs e) (by omega))) λo=>?_));refine Dp (λw' hs=>EZ (rO (k:=0) hs Y)) ?_;rintro⟨u,rfl,p⟩;refine li Y (FF hZ B4n Y (by decide) (by decide) Y Y Y Y Y Y λg13=>?_);refine AG [2,1,0] Y (li Y (GZ hZ B4n Y (by decide) Y Y Y Y Y Y (by omega) (by omega) λf=>?_));refine p1 Y (De (Xb (Xt (Dh ([ov [f] ((l.take k)++ [m]:(List Fact))]) Y (Cr (p1 Y (ad (k+1) Y (Pe Y (A3 0 Y (show((l.take k)++ [m]:(List Fact))=l.take (k+1) from by exact(A1 b).symm) (λac w' hf hs=>⟨_,?_,k+1,f,?_,Y,hf.wk Y,hs⟩))))))))))
   ·omega
   ·omega
  ·refine Cx (Xx (Xx (Xe (Xt (Sr (P2 Y Y (Dx (Ct (FV Y Y λw' hs=>A7 (k:=0) hs Y ?_)))))))));show l.take k=l;rw[List.take_of_length_le (by omega)]
theorem KJ{w:World}{a:Value}{b:(List Pair)}(c:Gd.rd w [a] b)(e:b.length<=1048576):Cy 185 [a] w (HH w (b:List Pair)):=by
 have d:=rM c;refine enter 5 Tryz.func185 Y Y Y (Sr (Pe Y (Sr (p1 Y (CG (α:=Pair) (li Y (sH (α:=Pair) (ys:=b) oX B4s Y (by decide) Y Y Y Y Y Y (λw' hs=>(rA hs c)) (by simp;omega) (by simp;omega) λv2=>?_)))))));refine Pe Y (Ct (FV Y Y λw' hs=>A7 (k:=0) hs Y ?_));show([])++b=b;rfl
theorem K6{w:World}{a:Value}{b:(List Pair)}(c:Gd.rd w [a] b)(e:b.length<=1048576):Cy 196 [a] w (HH w (b:List Pair)):=by
 have d:=rM c;refine enter 6 Tryz.func196 Y Y Y (Sr (Pe Y (Sr (li Y (FL (α:=Pair) oX Y Y Y λv2=>?_)))));refine p1 Y (li Y (sH (α:=Pair) (ys:=b) oX B4s Y (by decide) Y Y Y Y Y Y (λw' hs=>(rA hs c)) (by simp;omega) (by simp;omega) λv3=>?_));refine Pe Y (Ct (FV Y Y λw' hs=>A7 (k:=0) hs Y ?_));show([])++b=b;rfl
end Go.Sy.Cho2
