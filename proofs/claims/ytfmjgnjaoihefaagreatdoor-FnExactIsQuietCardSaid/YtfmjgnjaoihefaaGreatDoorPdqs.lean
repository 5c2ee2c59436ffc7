/-
  Contracts of functions of the program, walked (printed by a program of ours).
  Conditions: those that each theorem states.
-/
import Derived.Test.YtfmjgnjaoihefaaGreatDoorFct
import Derived.Test.YtfmjgnjaoihefaaGreatDoorProg
import Derived.Test.YtfmjgnjaoihefaaGreatDoorTypes
import Derived.Test.YtfmjgnjaoihefaaGreatDoorBase
import Derived.Test.YtfmjgnjaoihefaaGreatDoorPdq
import Derived.Test.YtfmjgnjaoihefaaGreatDoorShelf
set_option linter.unusedVariables false
set_option maxRecDepth 20000
namespace Go.Sy.Pdqs
open Go Go.RowKit Go.Proofs Go.Sy
theorem gR(w:World)(x:Int)(h0:0<=x/\x<=18446744073709551615):Cy 282 [Value.int .u64 x] w (Val w (nv (Lib.bitLen x.toNat))):=
 (Tryz.bits_Len x w h0.1 h0.2).mono λe w' ⟨he,hw⟩=>⟨he,hw▸Ex.refl w⟩
theorem PP{α:Type} [Inhabited α]{C:List α->Chunk}{lt:α->α->Bool}{h:List α}{k:Value}{w0:World}(S:Srx Tryz.prog C lt h k w0)(o:Ordr lt)(p:h.length<=12)(f:List Chunk)(w:World)(d:List α)(hp:List.Perm d h)(a:Nat)(b:Nat)(q:a<=b)(hb:b<=h.length)(l:St w0 (C d::f) w):Cy 293 [k,(nv a),(nv b)] w (λe_ w'=>∃(s:Unit) (e:List α),(Chg d e a b/\FI lt e a b)/\e_= .returned (.tuple #[])/\St w0 (C e::f) w'):=by
 have hdl:d.length=h.length:=hp.length_eq;refine CX 33 Tryz.func293 Y Y Y l (Sr (p1 Y (ad (a+1) Y (Pe Y (Dh (C d::f) Y (Cb (Cl (λm_ ac w'=>∃(i:Nat),∃(e:List α),(a+1<=i)/\(i<=b\/i=a+1)/\(Chg d e a b)/\(FI lt e a i)/\m_=b-i/\Fits ac 33 [(0,k),(1,(nv a)),(2,(nv b)),(6,(nv i))]/\St w0 (C e::f) w') ?_ ?_)))))))
 ·refine λac w' hf hs=>⟨_,a+1,d,?_,?_,?_,?_,Y,hf.wk Y,hs⟩
  ·first|assumption|omega|simp
  ·first|assumption|omega|simp
  ·exact Chg.refl _ _ _
  ·exact kE _ _
 ·rintro m_ ac w' ⟨i,e,hia,hib,hc,hsr,rfl,hf,hs⟩;refine D.use ?_ hf hs;clear hf hs ac w';refine Cq (Sr (P3 Y Y Y (Dx (Dh (_::f) Y (Cd Y (λm=>?_) (λm=>?_))))))
  ·refine Sk (Cq (Cb (Sr (P2 Y Y (Dx (Cb (Cl (λm_ ac w'=>∃(j:Nat),∃(g:List α),(a<=j)/\(j<=i)/\(Chg d g a b)/\(gN lt g a i j)/\m_=j+1/\Fits ac 33 [(0,k),(1,(nv a)),(2,(nv b)),(6,(nv i)),(7,(nv j))]/\St w0 (C g::f) w') ?_ ?_)))))))
   ·refine λac w' hf hs=>⟨_,i,e,?_,?_,?_,?_,Y,hf.wk Y,hs⟩
    ·first|assumption|omega|simp
    ·first|assumption|omega|simp
    ·exact hc
    ·exact XP hsr
   ·rintro m_ ac w' ⟨j,g,haj,hji,c,hin,rfl,hf,hs⟩;refine D.use ?_ hf hs;clear hf hs ac w';refine Cq (Sr (P3 Y Y Y (p1 Y (EY 19 Y Y (λn=>?_) (λn=>?_)))))
    ·refine P3 Y Y Y (q1 Y (B3 Y Y Y (r:=((j-1:Nat):Int)) (by omega) (by omega)) (li Y (A5l S (c.perm.trans hp) (i:=j) (j:=j-1) Y Y Y Y Y (by omega) (by omega) ?_)));refine Pe Y (Dh (_::f) Y (Ci _ Y (λt=>?_) (λt=>?_)))
     ·refine Sk (Cq (Cb (Cr (P3 Y Y Y (q1 Y (B3 Y Y Y (r:=((j-1:Nat):Int)) (by omega) (by omega)) (li Y (A5m S (c.perm.trans hp) (i:=j) (j:=j-1) Y Y Y Y Y (by omega) (by omega) ?_)))))));refine De (Xb (Xt (AH [0,1,2,6,7] Y (Dh (C (swp g j (j-1))::f) Y (Cr (p1 Y (q1 Y (B3 Y Y Y (r:=((j-1:Nat):Int)) (by omega) (by omega)) (Pe Y (λac w' hf hs=>⟨_,?_,j-1,swp g j (j-1),?_,?_,?_,?_,Y,hf.wk Y,hs⟩)))))))))
      ·omega
      ·first|assumption|omega|simp
      ·first|assumption|omega|simp
      ·exact c.trans (Chg.swp (by omega) (by omega) (by have:=c.len;omega))
      ·exact dD o hin (by omega) (by omega) (by have:=c.len;omega) ‹_›
     ·refine Cx (Xx (Xx (Xe (Xb (Xt (Cr (p1 Y (ad (i+1) Y (Pe Y (λac w' hf hs=>⟨_,?_,i+1,g,?_,?_,?_,?_,Y,hf.wk Y,hs⟩))))))))))
      ·omega
      ·first|assumption|omega|simp
      ·first|assumption|omega|simp
      ·exact c
      ·exact dF o hin (by omega) (by omega) ‹_›
    ·refine n1 Y (n1 Y (n1 Y (n1 Y (n1 Y (Pe Y (Dh (_::f) Y (G7 Y (Cx (Xx (Xx (Xe (Xb (Xt (Cr (p1 Y (ad (i+1) Y (Pe Y (λac w' hf hs=>⟨_,?_,i+1,g,?_,?_,?_,?_,Y,hf.wk Y,hs⟩))))))))))))))))))
     ·omega
     ·first|assumption|omega|simp
     ·first|assumption|omega|simp
     ·exact c
     ·exact dE hin (by omega)
  ·refine Cx (Xx (Xx (Xe (CY Y λw' hs=>⟨(),e,?_,Y,hs⟩))));exact⟨hc,I3 hsr (Nat.le_refl _) (by omega)⟩
theorem Z0{α:Type} [Inhabited α]{C:List α->Chunk}{lt:α->α->Bool}{h:List α}{j:Value}{w0:World}(S:Srx Tryz.prog C lt h j w0)(q:Ordr lt)(k:h.length<=12)(i:List Chunk)(w:World)(d:List α)(hp:List.Perm d h)(a:Nat)(b:Nat)(c:Nat)(t:a<=b)(hb:b<=h.length)(l:St w0 (C d::i) w):Cy 283 [j,(nv a),(nv b),(nv c)] w (λe_ w'=>∃(s:Unit) (e:List α),(Chg d e a b/\FI lt e a b)/\e_= .returned (.tuple #[])/\St w0 (C e::i) w'):=by
 have hdl:d.length=h.length:=hp.length_eq;refine CX 129 Tryz.func283 Y Y Y l (Sr (Pe Y (Dh (C d::i) Y (Sr (Pe Y (Cb (Cl (λm_ ac w'=>∃(f:Nat),∃(g:Nat),∃(p:Nat),∃(wb:Bool),∃(wp:Bool),∃(e:List α),(f=a)/\(g=b)/\(e=d)/\m_=g-f/\Fits ac 129 [(0,j),(1,(nv f)),(2,(nv g)),(3,(nv p)),(8,(.bool wb)),(9,(.bool wp))]/\St w0 (C e::i) w') ?_ ?_)))))))
 ·refine λac w' hf hs=>⟨_,a,b,c,true,true,d,?_,?_,?_,Y,hf.wk Y,hs⟩
  ·rfl
  ·rfl
  ·rfl
 ·rintro m_ ac w' ⟨f,g,p,wb,wp,e,m,n,hed,rfl,hf,hs⟩;refine D.use ?_ hf hs;clear hf hs ac w';refine Cb (Sr (P2 Y Y (q1 Y (B3 Y Y Y (r:=((g-f:Nat):Int)) (by omega) (by omega)) (Pe Y (Dh (_::i) Y (Cq (Sr (P2 Y Y (Dx (Cd Y (λo=>?_) (λo=>?_)))))))))))
  ·refine Sr (P3 Y Y Y (li Y (cix A4A Y Y Y Y (λw' hs=>PP S q k _ w' e (hed▸hp) f g (by first|assumption|omega) (by first|assumption|omega) hs) ?_)));rintro⟨⟩ u hei
   try dsimp only at hei
   refine Dx (Ct (Xr (Xq (Xr (Xq (R_0 Y λw' hs=>⟨(),u,?_,Y,hs⟩))))));subst m n hed;exact hei
  ·refine Sk (Cq (Cq ?_));exfalso;omega
theorem mZ{α:Type} [Inhabited α]{C:List α->Chunk}{lt:α->α->Bool}{a:List α}{i:Value}{w0:World}(S:Srx Tryz.prog C lt a i w0)(j:Ordr lt)(c:a.length<=12)(f:List Chunk)(w:World)(d:List α)(hp:List.Perm d a)(g:St w0 (C d::f) w):Cy 268 [i] w (λe_ w'=>∃(s:Unit) (e:List α),(Chg d e 0 a.length/\FI lt e 0 a.length)/\e_= .returned (.tuple #[])/\St w0 (C e::f) w'):=by
 have hdl:d.length=a.length:=hp.length_eq;refine CX 15 Tryz.func268 Y Y Y g (Sr (p1 Y (li Y (A7f S hp Y Y Y Y ?_))));refine Pe Y (Dh (C d::f) Y (Cq (Sr (P2 Y Y (Dx (Cd Y (λh=>?_) (λh=>?_)))))))
 ·refine Ct (Xr (R_0 Y λw' hs=>⟨(),d,?_,Y,hs⟩));exact⟨Chg.refl _ _ _,XY (by omega)⟩
 ·refine Sk (Sr (p1 Y (q1 Y (XX (n:=a.length) J5 ⟨_,LO⟩ Y Y (by omega)) (qv A3z Y (λw' hs=>(gR w' ((a.length:Nat):Int) (by first|assumption|omega|(unfold ED at*;split at* <;>omega)))) (Pe Y (Cr (P3 Y Y Y ?_)))))));have hbl:=Lib.bitLen_le ((a.length:Nat):Int).toNat 62 (by omega) (by omega);refine li Y (cix A4B Y Y Y Y (λw' hs=>Z0 S j c _ w' d hp 0 a.length (Lib.bitLen (((a.length:Nat):Int)).toNat) (by first|assumption|omega) (by first|assumption|omega) hs) ?_);rintro⟨⟩ k b
  try dsimp only at b
  refine De (CY Y λw' hs=>⟨(),k,?_,Y,hs⟩)
  first|exact⟨Chg.refl _ _ _,XY (by omega)⟩|exact b
end Go.Sy.Pdqs
