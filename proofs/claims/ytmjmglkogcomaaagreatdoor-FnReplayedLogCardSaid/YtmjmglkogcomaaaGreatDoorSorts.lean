/-
  Contracts of functions of the program, walked (printed by a program of ours).
  Conditions: those that each theorem states.
-/
import Derived.Test.YtmjmglkogcomaaaGreatDoorFct
import Derived.Test.YtmjmglkogcomaaaGreatDoorProg
import Derived.Test.YtmjmglkogcomaaaGreatDoorSort
set_option linter.unusedVariables false
set_option maxRecDepth 20000
namespace Go.Sy.Sorts
open Go Go.RowKit Go.Proofs Go.Sy
theorem HG{α:Type} [Inhabited α]{C:List α->Chunk}{lt:α->α->Bool}{h:List α}{l m:Nat}{o p:List Value}{w0:World}(S:Srt Tryz.prog C lt h l o m p w0)(ho:Ordr lt)(x:h.length<=2305843009213693951)(f:List Chunk)(w:World)(d:List α)(hp:List.Perm d h)(a:Nat)(b:Nat)(n:Nat)(q:a+n<=b)(y:b+n<=h.length)(r:St w0 (C d::f) w):Cy 272 [(.agg #[(.func (.func l) #[] o.toArray),(.func (.func m) #[] p.toArray)]),(nv a),(nv b),(nv n)] w (λz w'=>z= .returned (.tuple #[])/\∃e,(SwR d e a b n)/\St w0 (C e::f) w'):=by
 have a0:d.length=h.length:=hp.length_eq;refine CX 23 Tryz.func272 Y Y Y r<|Sr (bX Y λt=>?_);refine Dx<|Dh (bx t [(.func (.func l) #[] o.toArray),(.func (.func m) #[] p.toArray)]::C d::f) Y<|Sr<|Pe Y<|Cb<|Cl (λv k w'=>∃(i:Nat),∃(e:List α),(i<=n)/\(SwR d e a b i)/\v=n-i/\Fits k 23 [(1,nv a),(2,nv b),(3,nv n),(4,pv t),(8,nv i)]/\St w0 (bx t [(.func (.func l) #[] o.toArray),(.func (.func m) #[] p.toArray)]::C e::f) w') ?_ ?_
 ·refine λk w' g c=>⟨_,0,d,?_,?_,Y,g.wk Y,c⟩
  ·omega
  ·exact sS _ _ _
 ·rintro v k w' ⟨i,e,hi,u,rfl,g,c⟩;refine D.use ?_ g c;clear g c k w';refine Cq<|Sr<|PE 3 Y<|Dh (_::_::f) Y<|Cd Y (λs=>?_) λs=>?_
  ·refine Sk<|Cq<|Cb<|Cr<|fl 0 C6f C7R Y<|P2 Y Y<|ad (a+i) Y<|P2 Y Y<|ad (b+i) Y<|BZ [1] 0 Y<|li Y<|kM S (u.2.1.trans hp) (i:=a+i) (j:=b+i) Y Y Y Y Y (by omega) (by omega) (by omega) ?_;refine De<|Xb<|Xt<|Dh (C (swp e (a+i) (b+i))::_::f) Y<|Cr<|p1 Y<|ad (i+1) Y<|Pe Y λk w' g c=>⟨_,?_,i+1,swp e (a+i) (b+i),?_,?_,Y,g.wk Y,c.fd [0,1] 0 Y⟩
   ·omega
   ·omega
   ·exact sT u (by omega) q (by omega)
  ·refine Cx<|Xx<|Xx<|Xe (CY Y λw' c=>⟨Y,e,?_,c.fd [] 1 Y⟩);rw[show n=i from by omega];exact u
theorem L1{α:Type} [Inhabited α]{C:List α->Chunk}{lt:α->α->Bool}{p:List α}{s t:Nat}{u v:List Value}{w0:World}(S:Srt Tryz.prog C lt p s u t v w0)(x:Ordr lt)(l:p.length<=2305843009213693951)(n:List Chunk)(w:World)(d:List α)(hp:List.Perm d p)(a:Nat)(m:Nat)(b:Nat)(a2:a<m)(a3:m<b)(hb:b<=p.length)(y:St w0 (C d::n) w):Cy 237 [(.agg #[(.func (.func s) #[] u.toArray),(.func (.func t) #[] v.toArray)]),(nv a),(nv m),(nv b)] w (λe_ w'=>e_= .returned (.tuple #[])/\∃e,(XQ d e a m b)/\St w0 (C e::n) w'):=by
 have a4:d.length=p.length:=hp.length_eq;refine CX 53 Tryz.func237 Y Y Y y<|Sr (bX Y λg1=>?_);refine Dx<|Dh (bx g1 [(.func (.func s) #[] u.toArray),(.func (.func t) #[] v.toArray)]::C d::n) Y<|Sr<|P2 Y Y<|q1 Y (B3 Y Y Y (r:=((m-a:Nat):Int)) (by omega) (by omega))<|Pe Y<|Sr<|P2 Y Y<|q1 Y (B3 Y Y Y (r:=((b-m:Nat):Int)) (by omega) (by omega))<|Pe Y<|Cq<|Cb<|Cl (λm_ o w'=>∃(i:Nat),∃(j:Nat),∃(e:List α),(0<i)/\(0<j)/\(i<=m)/\(m+j<=b)/\(List.Perm e d)/\(∀f,XQ e f (m-i) m (m+j)->XQ d f a m b)/\m_=i+j/\Fits o 53 [(2,nv m),(4,pv g1),(8,nv i),(9,nv j)]/\St w0 (bx g1 [(.func (.func s) #[] u.toArray),(.func (.func t) #[] v.toArray)]::C e::n) w') ?_ ?_
 ·refine λo w' g c=>⟨_,m-a,b-m,d,?_,?_,?_,?_,?_,?_,Y,g.wk Y,c⟩
  ·omega
  ·omega
  ·omega
  ·omega
  ·exact List.Perm.refl _
  ·intro f g;rwa [show m-(m-a)=a from by omega,show m+(b-m)=b from by omega] at g
 ·rintro m_ o w' ⟨i,j,e,h0,h1,hi,hj,k,hr,rfl,g,c⟩;refine D.use ?_ g c;clear g c o w';refine Cq<|Sr<|PE 3 Y<|Dh (_::_::n) Y<|Cn Y (λz=>?_) λz=>?_
  ·refine Sk<|Cb<|Sr<|PE 3 Y<|Cd Y (λa0=>?_) λa0=>?_
   ·refine Sr<|q1 Y (C9 0 C5H Y Y Y)<|P2 Y Y<|q1 Y (B3 Y Y Y (r:=((m-i:Nat):Int)) (by omega) (by omega))<|P2 Y Y<|BZ [1] 0 Y<|li Y (GK A3q Y Y Y Y (λw' c=>HG S x l _ w' e (k.trans hp) (m-i) m j (by omega) (by omega) c) λq h=>?_);refine Dx<|Dh (C q::_::n) Y<|Cr<|P2 Y Y<|q1 Y (B3 Y Y Y (r:=((i-j:Nat):Int)) (by omega) (by omega))<|p1 Y<|De<|Xb<|Xt λo w' g c=>⟨_,?_,i-j,j,q,?_,?_,?_,?_,?_,?_,Y,g.wk Y,c.fd [0,1] 0 Y⟩
    ·omega
    ·omega
    ·assumption
    ·omega
    ·assumption
    ·exact h.2.1.trans k
    ·intro f g;exact hr f (A2I h (by omega) (by omega) g)
   ·refine Sr<|q1 Y (C9 0 C5H Y Y Y)<|P2 Y Y<|q1 Y (B3 Y Y Y (r:=((m-i:Nat):Int)) (by omega) (by omega))<|P2 Y Y<|ad (m+j) Y<|p1 Y<|q1 Y (B3 Y Y Y (r:=((m+j-i:Nat):Int)) (by omega) (by omega))<|p1 Y<|BZ [1] 0 Y<|li Y (GK A3q Y Y Y Y (λw' c=>HG S x l _ w' e (k.trans hp) (m-i) (m+j-i) i (by omega) (by omega) c) λq h=>?_);refine Dx<|AH [2,4,8,9] Y<|Dh (C q::_::n) Y<|Cr<|P2 Y Y<|q1 Y (B3 Y Y Y (r:=((j-i:Nat):Int)) (by omega) (by omega))<|p1 Y<|De<|Xb<|Xt λo w' g c=>⟨_,?_,i,j-i,q,?_,?_,?_,?_,?_,?_,Y,g.wk Y,c.fd [0,1] 0 Y⟩
    ·omega
    ·assumption
    ·omega
    ·assumption
    ·omega
    ·exact h.2.1.trans k
    ·intro f g;exact hr f (A2J h (by omega) (by omega) g)
  ·refine Cx<|Xx<|Xx<|Xe<|Xt<|Cr<|q1 Y (C9 0 C5H Y Y Y)<|P2 Y Y<|q1 Y (B3 Y Y Y (r:=((m-i:Nat):Int)) (by omega) (by omega))<|P2 Y Y<|BZ [1] 0 Y<|li Y (GK A3q Y Y Y Y (λw' c=>HG S x l _ w' e (k.trans hp) (m-i) m i (by omega) (by omega) c) λe3 a1=>?_);refine De (CY Y λw' c=>⟨Y,e3,?_,c.fd [0,1] 1 Y⟩);exact hr _ (by have hq:=A2K a1 (by omega);rwa [show m+i=m+j from by omega] at hq)
theorem HZ{α:Type} [Inhabited α]{C:List α->Chunk}{lt:α->α->Bool}{o:List α}{p q:Nat}{s t:List Value}{w0:World}(S:Srt Tryz.prog C lt o p s q t w0)(ho:Ordr lt)(a2:o.length<=2305843009213693951)(l:List Chunk)(w:World)(d:List α)(hp:List.Perm d o)(a:Nat)(b:Nat)(a3:a<=b)(hb:b<=o.length)(z:St w0 (C d::l) w):Cy 207 [(.agg #[(.func (.func p) #[] s.toArray),(.func (.func q) #[] t.toArray)]),(nv a),(nv b)] w (λe_ w'=>e_= .returned (.tuple #[])/\∃e,(Chg d e a b/\FI lt e a b/\JA lt d e)/\St w0 (C e::l) w'):=by
 have a5:d.length=o.length:=hp.length_eq;refine CX 35 Tryz.func207 Y Y Y z<|Sr (bX Y λu=>?_);refine Dx<|Dh (bx u [(.func (.func p) #[] s.toArray),(.func (.func q) #[] t.toArray)]::C d::l) Y<|Sr<|p1 Y<|ad (a+1) Y<|Pe Y<|Cb<|Cl (λy h w'=>∃(i:Nat),∃(e:List α),(a+1<=i)/\(i<=b\/i=a+1)/\(Chg d e a b)/\(FI lt e a i)/\(JA lt d e)/\y=b-i/\Fits h 35 [(1,nv a),(2,nv b),(3,pv u),(6,nv i)]/\St w0 (bx u [(.func (.func p) #[] s.toArray),(.func (.func q) #[] t.toArray)]::C e::l) w') ?_ ?_
 ·refine λh w' g f=>⟨_,a+1,d,?_,?_,?_,?_,?_,Y,g.wk Y,f⟩
  ·omega
  ·omega
  ·exact Chg.refl _ _ _
  ·exact kE _ _
  ·exact NR _
 ·rintro y h w' ⟨i,e,a4,a6,hc,x,v,rfl,g,f⟩;refine D.use ?_ g f;clear g f h w';refine Cq<|Sr<|PE 3 Y<|Dh (_::_::l) Y<|Cd Y (λa0=>?_) λa0=>?_
  ·refine Sk<|Cq<|Cb<|Sr<|PE 2 Y<|Cb<|Cl (λy h w'=>∃(j:Nat),∃(m:List α),(a<=j)/\(j<=i)/\(Chg d m a b)/\(gN lt m a i j)/\(JA lt d m)/\y=j+1/\Fits h 35 [(1,nv a),(2,nv b),(3,pv u),(6,nv i),(7,nv j)]/\St w0 (bx u [(.func (.func p) #[] s.toArray),(.func (.func q) #[] t.toArray)]::C m::l) w') ?_ ?_
   ·refine λh w' g f=>⟨_,i,e,?_,?_,?_,?_,?_,Y,g.wk Y,f⟩
    ·omega
    ·omega
    ·exact hc
    ·exact XP x
    ·exact v
   ·rintro y h w' ⟨j,m,a7,a8,c,n,k,rfl,g,f⟩;refine D.use ?_ g f;clear g f h w';refine Cq<|Sr<|P3 Y Y Y<|p1 Y<|EY 19 Y Y (λa1=>?_) λa1=>?_
    ·refine fl 0 C6Q C7A Y<|P2 Y Y<|q1 Y (B3 Y Y Y (r:=((j-1:Nat):Int)) (by omega) (by omega))<|BZ [1] 0 Y<|li Y<|dO S (c.perm.trans hp) (i:=j) (j:=j-1) Y Y Y Y Y (by omega) (by omega) ?_;refine Pe Y<|Dh (_::_::l) Y<|Ci _ Y (λh4=>?_) λh4=>?_
     ·refine Sk<|Cq<|Cb<|Cr<|fl 1 C6f C7R Y<|P2 Y Y<|q1 Y (B3 Y Y Y (r:=((j-1:Nat):Int)) (by omega) (by omega))<|li Y<|kM S (c.perm.trans hp) (i:=j) (j:=j-1) Y Y Y Y Y (by omega) (by omega) (by omega) ?_;refine De<|Xb<|Xt<|AH [1,2,3,6,7] Y<|Dh (C (swp m j (j-1))::_::l) Y<|Cr<|p1 Y<|q1 Y (B3 Y Y Y (r:=((j-1:Nat):Int)) (by omega) (by omega))<|Pe Y λh w' g f=>⟨_,?_,j-1,swp m j (j-1),?_,?_,?_,?_,?_,Y,g.wk Y,f.fd [0,1] 0 Y⟩
      ·omega
      ·omega
      ·omega
      ·exact c.trans (Chg.swp (by omega) (by omega) (by have:=c.len;omega))
      ·exact dD ho n (by omega) (by omega) (by have:=c.len;omega) ‹_›
      ·exact G5 k (ZU (by omega) (by have:=c.len;omega) ‹_›)
     ·refine Cx<|Xx<|Xx<|Xe<|Xb<|Xt<|Cr<|p1 Y<|ad (i+1) Y<|Pe Y λh w' g f=>⟨_,?_,i+1,m,?_,?_,?_,?_,?_,Y,g.wk Y,f.fd [0,1] 0 Y⟩
      ·omega
      ·omega
      ·omega
      ·exact c
      ·exact dF ho n (by omega) (by omega) ‹_›
      ·exact k
    ·refine PE 7 Y<|Dh (_::_::l) Y<|G7 Y<|Cx<|Xx<|Xx<|Xe<|Xb<|Xt<|Cr<|p1 Y<|ad (i+1) Y<|Pe Y λh w' g f=>⟨_,?_,i+1,m,?_,?_,?_,?_,?_,Y,g.wk Y,f⟩
     ·omega
     ·omega
     ·omega
     ·exact c
     ·exact dE n (by omega)
     ·exact k
  ·refine Cx<|Xx<|Xx<|Xe (CY Y λw' f=>⟨Y,e,?_,f.fd [] 1 Y⟩);exact⟨hc,I3 x (Nat.le_refl _) (by omega),v⟩
set_option maxHeartbeats 4000000 in
theorem KP{α:Type} [Inhabited α]{C:List α->Chunk}{lt:α->α->Bool}{d0:List α}{lf sf:Nat}{lc sc:List Value}{w0:World}(S:Srt Tryz.prog C lt d0 lf lc sf sc w0)(ho:Ordr lt)(a7:d0.length<=2305843009213693951)(f:Nat):∀(Hs:List Chunk) (w:World) (d:List α) (hp:List.Perm d d0) (a:Nat) (m:Nat) (b:Nat) (ham:a<m) (hmb:m<b) (hb:b<=d0.length) (y:FI lt d a m) (z:FI lt d m b) (hfu:b-a<=f) (hst:St w0 (C d::Hs) w),Cy 208 [(.agg #[(.func (.func lf) #[] lc.toArray),(.func (.func sf) #[] sc.toArray)]),(nv a),(nv m),(nv b)] w (λe_ w'=>e_= .returned (.tuple #[])/\∃e,(Chg d e a b/\FI lt e a b/\JA lt d e)/\St w0 (C e::Hs) w'):=by
 induction f using Nat.strongRecOn with
 |_ f ih=>
 intro Hs w d hp a m b ham hmb hb y z hfu hst;have c8:d.length=d0.length:=hp.length_eq;refine CX 177 Tryz.func208 Y Y Y hst<|Sr (bX Y λg1=>?_);refine Dx<|Dh (bx g1 [(.func (.func lf) #[] lc.toArray),(.func (.func sf) #[] sc.toArray)]::C d::Hs) Y<|Cq<|Sr<|P2 Y Y<|q1 Y (B3 Y Y Y (r:=((m-a:Nat):Int)) (by omega) (by omega))<|Pe Y<|Ci _ Y (λh2=>?_) λh2=>?_
 ·have bz:=eq_of_beq h2;refine Sr<|PE 2 Y<|Sr<|PE 2 Y<|Cq<|Cb<|Cl (λm_ ac w'=>∃(i:Nat),∃(j:Nat),(m<=i)/\(i<=j)/\(j<=b)/\(Low lt d a m b i j)/\m_=j-i/\Fits ac 177 [(1,nv a),(4,pv g1),(8,nv i),(9,nv j)]/\St w0 (bx g1 [(.func (.func lf) #[] lc.toArray),(.func (.func sf) #[] sc.toArray)]::C d::Hs) w') ?_ ?_
  ·refine λac w' hf h=>⟨_,m,b,?_,?_,?_,?_,Y,hf.wk Y,h⟩
   ·omega
   ·omega
   ·omega
   ·exact mR _ _ _ _
  ·rintro m_ ac w' ⟨i,j,h1,h2,h3,hl,rfl,hf,h⟩;refine D.use ?_ hf h;clear hf h ac w';refine Cq<|Sr<|PE 3 Y<|Cd Y (λc0=>?_) λc0=>?_
   ·refine Sk<|Cb<|Sr<|P2 Y Y<|ad (i+j) Y<|q1 Y (XX (n:=(i+j)) C5v ⟨_,LO⟩ Y Y (by omega))<|q1 Y (dQ (n:=(i+j)) Y Y Y (by omega))<|q1 Y (dP (n:=((i+j)/2)) LO ⟨_,C5v⟩ Y Y (by omega))<|Pe Y<|Sr<|fl 0 C6Q C7A Y<|P2 Y Y<|BZ [1] 0 Y<|li Y<|dO S hp (i:=(i+j)/2) (j:=a) Y Y Y Y Y (by omega) (by omega) ?_;refine Dx<|Dh (_::_::Hs) Y<|Ci _ Y (λh4=>?_) λh4=>?_
    ·refine Cr<|p1 Y<|ad ((i+j)/2+1) Y<|p1 Y<|De<|Xb<|Xt λac w' hf h=>⟨_,?_,(i+j)/2+1,j,?_,?_,?_,?_,Y,hf.wk Y,h.fd [0,1] 0 Y⟩
     ·omega
     ·omega
     ·omega
     ·assumption
     ·exact A2L ho hl z (by omega) (by omega) (by omega) (by omega) ‹_›
    ·refine Cr<|P2 Y Y<|De<|Xb<|Xt λac w' hf h=>⟨_,?_,i,(i+j)/2,?_,?_,?_,?_,Y,hf.wk Y,h.fd [0,1] 0 Y⟩
     ·omega
     ·assumption
     ·omega
     ·omega
     ·exact A2M ho hl z (by omega) (by omega) (by omega) ‹_›
   ·refine Cx<|Xx<|Xx<|Xe<|Xt<|Cq<|Sr<|PE 2 Y<|Cb<|Cl (λm_ ac w'=>∃(k:Nat),∃(e:List α),(a<=k)/\(k<=i-1)/\(Up d e a k b)/\(JA lt d e)/\m_=i-k/\Fits ac 177 [(4,pv g1),(8,nv i),(11,nv k)]/\St w0 (bx g1 [(.func (.func lf) #[] lc.toArray),(.func (.func sf) #[] sc.toArray)]::C e::Hs) w') ?_ ?_
    ·refine λac w' hf h=>⟨_,a,d,?_,?_,?_,?_,Y,hf.wk Y,h⟩
     ·omega
     ·omega
     ·exact sU _ _ _
     ·exact NR _
    ·rintro m_ ac w' ⟨k,e,hk,c1,hu,a4,rfl,hf,h⟩;refine D.use ?_ hf h;clear hf h ac w';refine Cq<|Sr<|P2 Y Y<|q1 Y (B3 Y Y Y (r:=((i-1:Nat):Int)) (by omega) (by omega))<|Pe Y<|Dh (_::_::Hs) Y<|Cd Y (λc2=>?_) λc2=>?_
     ·refine Sk<|Cq<|Cb<|Cr<|fl 0 C6f C7R Y<|P2 Y Y<|ad (k+1) Y<|BZ [1] 0 Y<|li Y<|kM S (hu.chg.perm.trans hp) (i:=k) (j:=k+1) Y Y Y Y Y (by omega) (by omega) (by omega) ?_;refine De<|Xb<|Xt<|Dh (C (swp e k (k+1))::_::Hs) Y<|Cr<|p1 Y<|ad (k+1) Y<|Pe Y λac w' hf h=>⟨_,?_,k+1,swp e k (k+1),?_,?_,?_,?_,Y,hf.wk Y,h.fd [0,1] 0 Y⟩
      ·omega
      ·omega
      ·omega
      ·exact xX hu (by omega) (by omega) (by omega)
      ·exact A2R (i:=i) hu (by have a3:j=i:=(by omega);rw[a3] at hl;exact hl) (by omega) (by omega) (by omega) (by omega) (by omega) a4
     ·refine Cx<|Xx<|Xx<|Xe<|Xt<|Ct<|Xr (R_0 Y λw' h=>⟨Y,e,?_,h.fd [] 1 Y⟩);have a6:k=i-1:=(by omega);have a3:j=i:=(by omega);subst a6;subst a3;exact⟨hu.chg,A2N ho hu (by omega) (by omega) (by omega) hl z,a4⟩
 ·have bz:=JH h2;refine Sk<|Cq<|Sr<|P2 Y Y<|q1 Y (B3 Y Y Y (r:=((b-m:Nat):Int)) (by omega) (by omega))<|Pe Y<|Ce Y (λc3=>?_) λc3=>?_
  ·refine Sr<|PE 2 Y<|Sr<|PE 2 Y<|Cq<|Cb<|Cl (λm_ ac w'=>∃(i:Nat),∃(j:Nat),(a<=i)/\(i<=j)/\(j<=m)/\(Hgh lt d a m i j)/\m_=j-i/\Fits ac 177 [(2,nv m),(4,pv g1),(12,nv i),(13,nv j)]/\St w0 (bx g1 [(.func (.func lf) #[] lc.toArray),(.func (.func sf) #[] sc.toArray)]::C d::Hs) w') ?_ ?_
   ·refine λac w' hf h=>⟨_,a,m,?_,?_,?_,?_,Y,hf.wk Y,h⟩
    ·omega
    ·omega
    ·omega
    ·exact mS _ _ _
   ·rintro m_ ac w' ⟨i,j,h1,h2,h3,hl,rfl,hf,h⟩;refine D.use ?_ hf h;clear hf h ac w';refine Cq<|Sr<|PE 3 Y<|Cd Y (λc4=>?_) λc4=>?_
    ·refine Sk<|Cb<|Sr<|P2 Y Y<|ad (i+j) Y<|q1 Y (XX (n:=(i+j)) C5v ⟨_,LO⟩ Y Y (by omega))<|q1 Y (dQ (n:=(i+j)) Y Y Y (by omega))<|q1 Y (dP (n:=((i+j)/2)) LO ⟨_,C5v⟩ Y Y (by omega))<|Pe Y<|Sr<|fl 0 C6Q C7A Y<|P2 Y Y<|BZ [1] 0 Y<|li Y<|dO S hp (i:=m) (j:=(i+j)/2) Y Y Y Y Y (by omega) (by omega) ?_;refine Pe Y<|Dh (_::_::Hs) Y<|CN Y (λc5=>?_) λc5=>?_
     ·refine Cr<|p1 Y<|ad ((i+j)/2+1) Y<|p1 Y<|De<|Xb<|Xt λac w' hf h=>⟨_,?_,(i+j)/2+1,j,?_,?_,?_,?_,Y,hf.wk Y,h.fd [0,1] 0 Y⟩
      ·omega
      ·omega
      ·omega
      ·assumption
      ·exact A2O ho hl y (by omega) (by omega) (by omega) (by omega) ‹_›
     ·refine Cr<|P2 Y Y<|De<|Xb<|Xt λac w' hf h=>⟨_,?_,i,(i+j)/2,?_,?_,?_,?_,Y,hf.wk Y,h.fd [0,1] 0 Y⟩
      ·omega
      ·assumption
      ·omega
      ·omega
      ·exact A2P ho hl y (by omega) (by omega) (by omega) ‹_›
    ·refine Cx<|Xx<|Xx<|Xe<|Xt<|Cq<|Sr<|PE 2 Y<|Cb<|Cl (λm_ ac w'=>∃(k:Nat),∃(e:List α),(i<=k)/\(k<=m)/\(Dwn d e a k m)/\(JA lt d e)/\m_=k+1/\Fits ac 177 [(4,pv g1),(12,nv i),(15,nv k)]/\St w0 (bx g1 [(.func (.func lf) #[] lc.toArray),(.func (.func sf) #[] sc.toArray)]::C e::Hs) w') ?_ ?_
     ·refine λac w' hf h=>⟨_,m,d,?_,?_,?_,?_,Y,hf.wk Y,h⟩
      ·omega
      ·omega
      ·exact mT _ _ _
      ·exact NR _
     ·rintro m_ ac w' ⟨k,e,hk,c1,hu,a4,rfl,hf,h⟩;refine D.use ?_ hf h;clear hf h ac w';refine Cq<|Sr<|PE 3 Y<|Dh (_::_::Hs) Y<|Cd Y (λc6=>?_) λc6=>?_
      ·refine Sk<|Cq<|Cb<|Cr<|fl 0 C6f C7R Y<|P2 Y Y<|q1 Y (B3 Y Y Y (r:=((k-1:Nat):Int)) (by omega) (by omega))<|BZ [1] 0 Y<|li Y<|kM S (hu.chg.perm.trans hp) (i:=k) (j:=k-1) Y Y Y Y Y (by omega) (by omega) (by omega) ?_;refine De<|Xb<|Xt<|Dh (C (swp e k (k-1))::_::Hs) Y<|Cr<|p1 Y<|q1 Y (B3 Y Y Y (r:=((k-1:Nat):Int)) (by omega) (by omega))<|Pe Y λac w' hf h=>⟨_,?_,k-1,swp e k (k-1),?_,?_,?_,?_,Y,hf.wk Y,h.fd [0,1] 0 Y⟩
       ·omega
       ·omega
       ·omega
       ·exact sV hu (by omega) (by omega) (by omega)
       ·exact yD (i:=i) hu (by have a3:j=i:=(by omega);rw[a3] at hl;exact hl) (by omega) (by omega) (by omega) a4
      ·refine Cx<|Xx<|Xx<|Xe<|Xt<|Ct<|Xr (R_0 Y λw' h=>⟨Y,e,?_,h.fd [] 1 Y⟩);have a6:k=i:=(by omega);have a3:j=i:=(by omega);have c7:b=m+1:=(by omega);subst a6;subst a3;subst c7;exact⟨hu.chg,xY ho hu (by omega) (by omega) hl y,a4⟩
  ·refine Sk<|Sr<|P2 Y Y<|ad (a+b) Y<|q1 Y (XX (n:=(a+b)) C5v ⟨_,LO⟩ Y Y (by omega))<|q1 Y (dQ (n:=(a+b)) Y Y Y (by omega))<|q1 Y (dP (n:=((a+b)/2)) LO ⟨_,C5v⟩ Y Y (by omega)) ?_;obtain⟨c,a5⟩:∃c:Nat,(a+b)/2=c:=⟨_,rfl⟩;refine MS 100 (v':= .int .i64 ((c:Nat):Int)) Y (by rw[a5]) Y<|Pe Y<|AH [1,2,3,4,16] Y<|Sr<|P2 Y Y<|ad (c+m) Y<|Pe Y<|Sr<|PE 2 Y<|Cq<|Sr<|PE 3 Y<|Cd Y (λa8=>?_) λa8=>?_
   ·refine Sr<|P2 Y Y<|q1 Y (B3 Y Y Y (r:=((c+m-b:Nat):Int)) (by omega) (by omega))<|Pe Y<|Cr<|PE 2 Y<|Sr<|p1 Y<|q1 Y (B3 Y Y Y (r:=((c+m-1:Nat):Int)) (by omega) (by omega))<|Pe Y<|Cq<|Cb<|Cl (λm_ ac w'=>∃(s:Nat),∃(r:Nat),(max a (c+m-b)<=s)/\(s<=r)/\(r<=min m c)/\(Sea lt d (max a (c+m-b)) (min m c) (c+m) s r)/\m_=r-s/\Fits ac 177 [(1,nv a),(2,nv m),(3,nv b),(4,pv g1),(16,nv c),(17,nv (c+m)),(18,nv s),(19,nv r),(20,nv (c+m-1))]/\St w0 (bx g1 [(.func (.func lf) #[] lc.toArray),(.func (.func sf) #[] sc.toArray)]::C d::Hs) w') ?_ ?_
    ·refine λac w' hf h=>⟨_,c+m-b,c,?_,?_,?_,?_,Y,hf.wk Y,h⟩
     ·omega
     ·omega
     ·omega
     ·rw[show max a (c+m-b)=c+m-b from by omega,show min m c=c from by omega];exact XR _ _ _ _
    ·rintro m_ ac w' ⟨s,r,h1,h2,h3,a1,rfl,hf,h⟩;refine D.use ?_ hf h;clear hf h ac w';refine Cq<|Sr<|PE 3 Y<|Cd Y (λa9=>?_) λa9=>?_
     ·refine Sk<|Cb<|Sr<|P2 Y Y<|ad (s+r) Y<|q1 Y (XX (n:=(s+r)) C5v ⟨_,LO⟩ Y Y (by omega))<|q1 Y (dQ (n:=(s+r)) Y Y Y (by omega))<|q1 Y (dP (n:=((s+r)/2)) LO ⟨_,C5v⟩ Y Y (by omega))<|Pe Y<|Sr<|fl 0 C6Q C7A Y<|P2 Y Y<|q1 Y (B3 Y Y Y (r:=((c+m-1-((s+r)/2):Nat):Int)) (by omega) (by omega))<|p1 Y<|BZ [1] 0 Y<|li Y<|dO S hp (i:=c+m-1-((s+r)/2)) (j:=(s+r)/2) Y Y Y Y Y (by omega) (by omega) ?_;refine Pe Y<|AH [1,2,3,4,16,17,18,19,20,21,131] Y<|Dh (_::_::Hs) Y<|CN Y (λaa=>?_) λaa=>?_
      ·refine Cr<|p1 Y<|ad ((s+r)/2+1) Y<|p1 Y<|De<|Xb<|Xt λac w' hf h=>⟨_,?_,(s+r)/2+1,r,?_,?_,?_,?_,Y,hf.wk Y,h.fd [0,1] 0 Y⟩
       ·omega
       ·omega
       ·omega
       ·assumption
       ·exact sW ho a1 y z (by omega) (by omega) (by omega) (by omega) (by omega) (by omega) (by omega) (by omega) ‹_›
      ·refine Cr<|P2 Y Y<|De<|Xb<|Xt λac w' hf h=>⟨_,?_,s,(s+r)/2,?_,?_,?_,?_,Y,hf.wk Y,h.fd [0,1] 0 Y⟩
       ·omega
       ·assumption
       ·omega
       ·omega
       ·exact sX ho a1 y z (by omega) (by omega) (by omega) (by omega) (by omega) (by omega) (by omega) (by omega) ‹_›
     ·refine Cx<|Xx<|Xx<|Xe<|Xt<|Sr<|P2 Y Y<|q1 Y (B3 Y Y Y (r:=((c+m-s:Nat):Int)) (by omega) (by omega))<|Pe Y<|Cq<|Sr<|P3 Y Y Y<|p1 Y<|EY 141 Y Y (λab=>?_) λab=>?_
      ·refine PE 4 Y<|AH [1,2,3,4,16,18,22,145] Y<|Cd Y (λae=>?_) λae=>?_
       ·refine Cr<|q1 Y (C9 0 C5H Y Y Y)<|P3 Y Y Y<|BZ [1] 0 Y<|li Y (GK zR Y Y Y Y (λw' h=>L1 S ho a7 _ w' d hp s m (c+m-s) (by omega) (by omega) (by omega) h) λe1 a2=>?_);refine Dx<|Dh (C e1::_::Hs) Y<|Cq<|Cq ?_;have g:XQ d e1 s m (c+m-s):=by exact a2
        have v:Sea lt d (max a (c+m-b)) (min m c) (c+m) s s:=by rwa [show r=s from by omega] at a1
        have q:sY lt e1 a c b:=OA ho rfl rfl v y z (by omega) (by omega) (by omega) (by omega) (by omega) (by omega) (by omega) (by omega) (by omega) g;have l:JA lt d e1:=OC g (by omega) (by omega) (by omega) (IR ho rfl rfl v y z (by omega) (by omega) (by omega) (by omega) (by omega) (by omega) (by omega) (by omega) (by omega));have o:=OB g y z (by omega) (by omega) (by omega) (by omega);rw[show s+(c+m-s-m)=c from by omega] at o;refine Cr<|P3 Y Y Y<|p1 Y<|EY 154 Y Y (λaf=>?_) λaf=>?_
        ·refine PE 4 Y<|Cd Y (λag=>?_) λag=>?_
         ·refine Cr<|q1 Y (C9 1 C5H Y Y Y)<|P3 Y Y Y<|li Y (GK A3j Y Y Y Y (λw' h=>ih (c-a) (by omega) _ w' e1 (a2.2.1.trans hp) a s c (by omega) (by omega) (by omega) o.1 o.2.1 (Nat.le_refl _) h) λe2 a0=>?_);refine Dx<|AH [3,4,16,22] Y<|Dh (C e2::_::Hs) Y<|Cq ?_;have t:Chg e1 e2 a c/\FI lt e2 a c/\JA lt e1 e2:=by exact a0
          have p:=BL o.2.2.1 t.1 (.inr (Nat.le_refl _));have u:=BL o.2.2.2 t.1 (.inr (by omega));refine Cr<|P3 Y Y Y<|p1 Y<|EY 167 Y Y (λah=>?_) λah=>?_
          ·refine PE 4 Y<|Cd Y (λai=>?_) λai=>?_
           ·refine Cr<|q1 Y (C9 1 C5H Y Y Y)<|P3 Y Y Y<|li Y (GK A3j Y Y Y Y (λw' h=>ih (b-c) (by omega) _ w' e2 (a0.1.perm.trans<|a2.2.1.trans hp) c (c+m-s) b (by omega) (by omega) ‹_› p u (Nat.le_refl _) h) λe3 x=>?_);refine De (CY Y λw' h=>⟨Y,e3,?_,h.fd [0,1] 1 Y⟩);exact A4 g (by omega) q l t x
           ·refine Ck (CY Y λw' h=>⟨Y,e2,?_,h.fd [0,1] 1 Y⟩);exact A4 g (by omega) q l t (CQ p (Nat.le_refl _) (by omega))
          ·refine PE 4 Y<|G7 Y<|Ck (CY Y λw' h=>⟨Y,e2,?_,h.fd [0,1] 1 Y⟩);exact A4 g (by omega) q l t (CQ p (Nat.le_refl _) (by omega))
         ·refine Sk<|AH [3,4,16,22] Y<|Cq ?_;have t:Chg e1 e1 a c/\FI lt e1 a c/\JA lt e1 e1:=by exact CQ o.1 (Nat.le_refl _) (by omega)
          have p:=BL o.2.2.1 t.1 (.inr (Nat.le_refl _));have u:=BL o.2.2.2 t.1 (.inr (by omega));refine Cr<|P3 Y Y Y<|p1 Y<|EY 167 Y Y (λaj=>?_) λaj=>?_
          ·refine PE 4 Y<|Cd Y (λak=>?_) λak=>?_
           ·refine Cr<|q1 Y (C9 1 C5H Y Y Y)<|P3 Y Y Y<|li Y (GK A3j Y Y Y Y (λw' h=>ih (b-c) (by omega) _ w' e1 (a2.2.1.trans hp) c (c+m-s) b (by omega) (by omega) ‹_› p u (Nat.le_refl _) h) λe3 x=>?_);refine De (CY Y λw' h=>⟨Y,e3,?_,h.fd [0,1] 1 Y⟩);exact A4 g (by omega) q l t x
           ·refine Ck (CY Y λw' h=>⟨Y,e1,?_,h.fd [0,1] 1 Y⟩);exact A4 g (by omega) q l t (CQ p (Nat.le_refl _) (by omega))
          ·refine PE 4 Y<|G7 Y<|Ck (CY Y λw' h=>⟨Y,e1,?_,h.fd [0,1] 1 Y⟩);exact A4 g (by omega) q l t (CQ p (Nat.le_refl _) (by omega))
        ·refine PE 4 Y<|G7 Y<|Sk<|AH [3,4,16,22] Y<|Cq ?_;have t:Chg e1 e1 a c/\FI lt e1 a c/\JA lt e1 e1:=by exact CQ o.2.1 (by omega) (Nat.le_refl _)
         have p:=BL o.2.2.1 t.1 (.inr (Nat.le_refl _));have u:=BL o.2.2.2 t.1 (.inr (by omega));refine Cr<|P3 Y Y Y<|p1 Y<|EY 167 Y Y (λal=>?_) λal=>?_
         ·refine PE 4 Y<|Cd Y (λam=>?_) λam=>?_
          ·refine Cr<|q1 Y (C9 1 C5H Y Y Y)<|P3 Y Y Y<|li Y (GK A3j Y Y Y Y (λw' h=>ih (b-c) (by omega) _ w' e1 (a2.2.1.trans hp) c (c+m-s) b (by omega) (by omega) ‹_› p u (Nat.le_refl _) h) λe3 x=>?_);refine De (CY Y λw' h=>⟨Y,e3,?_,h.fd [0,1] 1 Y⟩);exact A4 g (by omega) q l t x
          ·refine Ck (CY Y λw' h=>⟨Y,e1,?_,h.fd [0,1] 1 Y⟩);exact A4 g (by omega) q l t (CQ p (Nat.le_refl _) (by omega))
         ·refine PE 4 Y<|G7 Y<|Ck (CY Y λw' h=>⟨Y,e1,?_,h.fd [0,1] 1 Y⟩);exact A4 g (by omega) q l t (CQ p (Nat.le_refl _) (by omega))
       ·refine Sk<|Cq<|Cq ?_;have g:XQ d d s m (c+m-s):=by exact QM (by omega) (by omega) (by omega)
        have v:Sea lt d (max a (c+m-b)) (min m c) (c+m) s s:=by rwa [show r=s from by omega] at a1
        have q:sY lt d a c b:=OA ho rfl rfl v y z (by omega) (by omega) (by omega) (by omega) (by omega) (by omega) (by omega) (by omega) (by omega) g;have l:JA lt d d:=OC g (by omega) (by omega) (by omega) (IR ho rfl rfl v y z (by omega) (by omega) (by omega) (by omega) (by omega) (by omega) (by omega) (by omega) (by omega));have o:=OB g y z (by omega) (by omega) (by omega) (by omega);rw[show s+(c+m-s-m)=c from by omega] at o;refine Cr<|P3 Y Y Y<|p1 Y<|EY 154 Y Y (λan=>?_) λan=>?_
        ·refine PE 4 Y<|Cd Y (λao=>?_) λao=>?_
         ·refine Cr<|q1 Y (C9 0 C5H Y Y Y)<|P3 Y Y Y<|BZ [1] 0 Y<|li Y (GK A3j Y Y Y Y (λw' h=>ih (c-a) (by omega) _ w' d hp a s c (by omega) (by omega) (by omega) o.1 o.2.1 (Nat.le_refl _) h) λe2 a0=>?_);refine Dx<|AH [3,4,16,22] Y<|Dh (C e2::_::Hs) Y<|Cq ?_;have t:Chg d e2 a c/\FI lt e2 a c/\JA lt d e2:=by exact a0
          have p:=BL o.2.2.1 t.1 (.inr (Nat.le_refl _));have u:=BL o.2.2.2 t.1 (.inr (by omega));refine Cr<|P3 Y Y Y<|p1 Y<|EY 167 Y Y (λap=>?_) λap=>?_
          ·refine PE 4 Y<|Cd Y (λaq=>?_) λaq=>?_
           ·refine Cr<|q1 Y (C9 1 C5H Y Y Y)<|P3 Y Y Y<|li Y (GK A3j Y Y Y Y (λw' h=>ih (b-c) (by omega) _ w' e2 (a0.1.perm.trans hp) c (c+m-s) b (by omega) (by omega) ‹_› p u (Nat.le_refl _) h) λe3 x=>?_);refine De (CY Y λw' h=>⟨Y,e3,?_,h.fd [0,1] 1 Y⟩);exact A4 g (by omega) q l t x
           ·refine Ck (CY Y λw' h=>⟨Y,e2,?_,h.fd [0,1] 1 Y⟩);exact A4 g (by omega) q l t (CQ p (Nat.le_refl _) (by omega))
          ·refine PE 4 Y<|G7 Y<|Ck (CY Y λw' h=>⟨Y,e2,?_,h.fd [0,1] 1 Y⟩);exact A4 g (by omega) q l t (CQ p (Nat.le_refl _) (by omega))
         ·refine Sk<|Cq ?_;have t:Chg d d a c/\FI lt d a c/\JA lt d d:=by exact CQ o.1 (Nat.le_refl _) (by omega)
          have p:=BL o.2.2.1 t.1 (.inr (Nat.le_refl _));have u:=BL o.2.2.2 t.1 (.inr (by omega));refine Cr<|P3 Y Y Y<|p1 Y<|EY 167 Y Y (λar=>?_) λar=>?_
          ·refine PE 4 Y<|AH [3,4,16,22,171] Y<|Cd Y (λau=>?_) λau=>?_
           ·refine Cr<|q1 Y (C9 0 C5H Y Y Y)<|P3 Y Y Y<|BZ [1] 0 Y<|li Y (GK A3j Y Y Y Y (λw' h=>ih (b-c) (by omega) _ w' d hp c (c+m-s) b (by omega) (by omega) ‹_› p u (Nat.le_refl _) h) λe3 x=>?_);refine De (CY Y λw' h=>⟨Y,e3,?_,h.fd [0,1] 1 Y⟩);exact A4 g (by omega) q l t x
           ·refine Ck (CY Y λw' h=>⟨Y,d,?_,h.fd [] 1 Y⟩);exact A4 g (by omega) q l t (CQ p (Nat.le_refl _) (by omega))
          ·refine PE 4 Y<|AH [3,4,16,22,171] Y<|G7 Y<|Ck (CY Y λw' h=>⟨Y,d,?_,h.fd [] 1 Y⟩);exact A4 g (by omega) q l t (CQ p (Nat.le_refl _) (by omega))
        ·refine PE 4 Y<|G7 Y<|Sk<|Cq ?_;have t:Chg d d a c/\FI lt d a c/\JA lt d d:=by exact CQ o.1 (Nat.le_refl _) (by omega)
         have p:=BL o.2.2.1 t.1 (.inr (Nat.le_refl _));have u:=BL o.2.2.2 t.1 (.inr (by omega));refine Cr<|P3 Y Y Y<|p1 Y<|EY 167 Y Y (λav=>?_) λav=>?_
         ·refine PE 4 Y<|AH [3,4,16,22,171] Y<|Cd Y (λaw=>?_) λaw=>?_
          ·refine Cr<|q1 Y (C9 0 C5H Y Y Y)<|P3 Y Y Y<|BZ [1] 0 Y<|li Y (GK A3j Y Y Y Y (λw' h=>ih (b-c) (by omega) _ w' d hp c (c+m-s) b (by omega) (by omega) ‹_› p u (Nat.le_refl _) h) λe3 x=>?_);refine De (CY Y λw' h=>⟨Y,e3,?_,h.fd [0,1] 1 Y⟩);exact A4 g (by omega) q l t x
          ·refine Ck (CY Y λw' h=>⟨Y,d,?_,h.fd [] 1 Y⟩);exact A4 g (by omega) q l t (CQ p (Nat.le_refl _) (by omega))
         ·refine PE 4 Y<|AH [3,4,16,22,171] Y<|G7 Y<|Ck (CY Y λw' h=>⟨Y,d,?_,h.fd [] 1 Y⟩);exact A4 g (by omega) q l t (CQ p (Nat.le_refl _) (by omega))
      ·refine PE 4 Y<|AH [1,2,3,4,16,18,22,145] Y<|G7 Y<|Sk<|Cq<|Cq ?_;have g:XQ d d s m (c+m-s):=by exact QM (by omega) (by omega) (by omega)
       have v:Sea lt d (max a (c+m-b)) (min m c) (c+m) s s:=by rwa [show r=s from by omega] at a1
       have q:sY lt d a c b:=OA ho rfl rfl v y z (by omega) (by omega) (by omega) (by omega) (by omega) (by omega) (by omega) (by omega) (by omega) g;have l:JA lt d d:=OC g (by omega) (by omega) (by omega) (IR ho rfl rfl v y z (by omega) (by omega) (by omega) (by omega) (by omega) (by omega) (by omega) (by omega) (by omega));have o:=OB g y z (by omega) (by omega) (by omega) (by omega);rw[show s+(c+m-s-m)=c from by omega] at o;refine Cr<|P3 Y Y Y<|p1 Y<|EY 154 Y Y (λax=>?_) λax=>?_
       ·refine PE 4 Y<|Cd Y (λay=>?_) λay=>?_
        ·refine Cr<|q1 Y (C9 0 C5H Y Y Y)<|P3 Y Y Y<|BZ [1] 0 Y<|li Y (GK A3j Y Y Y Y (λw' h=>ih (c-a) (by omega) _ w' d hp a s c (by omega) (by omega) (by omega) o.1 o.2.1 (Nat.le_refl _) h) λe2 a0=>?_);refine Dx<|AH [3,4,16,22] Y<|Dh (C e2::_::Hs) Y<|Cq ?_;have t:Chg d e2 a c/\FI lt e2 a c/\JA lt d e2:=by exact a0
         have p:=BL o.2.2.1 t.1 (.inr (Nat.le_refl _));have u:=BL o.2.2.2 t.1 (.inr (by omega));refine Cr<|P3 Y Y Y<|p1 Y<|EY 167 Y Y (λaz=>?_) λaz=>?_
         ·refine PE 4 Y<|Cd Y (λb0=>?_) λb0=>?_
          ·refine Cr<|q1 Y (C9 1 C5H Y Y Y)<|P3 Y Y Y<|li Y (GK A3j Y Y Y Y (λw' h=>ih (b-c) (by omega) _ w' e2 (a0.1.perm.trans hp) c (c+m-s) b (by omega) (by omega) ‹_› p u (Nat.le_refl _) h) λe3 x=>?_);refine De (CY Y λw' h=>⟨Y,e3,?_,h.fd [0,1] 1 Y⟩);exact A4 g (by omega) q l t x
          ·refine Ck (CY Y λw' h=>⟨Y,e2,?_,h.fd [0,1] 1 Y⟩);exact A4 g (by omega) q l t (CQ p (Nat.le_refl _) (by omega))
         ·refine PE 4 Y<|G7 Y<|Ck (CY Y λw' h=>⟨Y,e2,?_,h.fd [0,1] 1 Y⟩);exact A4 g (by omega) q l t (CQ p (Nat.le_refl _) (by omega))
        ·refine Sk<|Cq ?_;have t:Chg d d a c/\FI lt d a c/\JA lt d d:=by exact CQ o.1 (Nat.le_refl _) (by omega)
         have p:=BL o.2.2.1 t.1 (.inr (Nat.le_refl _));have u:=BL o.2.2.2 t.1 (.inr (by omega));refine Cr<|P3 Y Y Y<|p1 Y<|EY 167 Y Y (λb1=>?_) λb1=>?_
         ·refine PE 4 Y<|AH [3,4,16,22,171] Y<|Cd Y (λb2=>?_) λb2=>?_
          ·refine Cr<|q1 Y (C9 0 C5H Y Y Y)<|P3 Y Y Y<|BZ [1] 0 Y<|li Y (GK A3j Y Y Y Y (λw' h=>ih (b-c) (by omega) _ w' d hp c (c+m-s) b (by omega) (by omega) ‹_› p u (Nat.le_refl _) h) λe3 x=>?_);refine De (CY Y λw' h=>⟨Y,e3,?_,h.fd [0,1] 1 Y⟩);exact A4 g (by omega) q l t x
          ·refine Ck (CY Y λw' h=>⟨Y,d,?_,h.fd [] 1 Y⟩);exact A4 g (by omega) q l t (CQ p (Nat.le_refl _) (by omega))
         ·refine PE 4 Y<|AH [3,4,16,22,171] Y<|G7 Y<|Ck (CY Y λw' h=>⟨Y,d,?_,h.fd [] 1 Y⟩);exact A4 g (by omega) q l t (CQ p (Nat.le_refl _) (by omega))
       ·refine PE 4 Y<|G7 Y<|Sk<|Cq ?_;have t:Chg d d a c/\FI lt d a c/\JA lt d d:=by exact CQ o.1 (Nat.le_refl _) (by omega)
        have p:=BL o.2.2.1 t.1 (.inr (Nat.le_refl _));have u:=BL o.2.2.2 t.1 (.inr (by omega));refine Cr<|P3 Y Y Y<|p1 Y<|EY 167 Y Y (λb3=>?_) λb3=>?_
        ·refine PE 4 Y<|AH [3,4,16,22,171] Y<|Cd Y (λb4=>?_) λb4=>?_
         ·refine Cr<|q1 Y (C9 0 C5H Y Y Y)<|P3 Y Y Y<|BZ [1] 0 Y<|li Y (GK A3j Y Y Y Y (λw' h=>ih (b-c) (by omega) _ w' d hp c (c+m-s) b (by omega) (by omega) ‹_› p u (Nat.le_refl _) h) λe3 x=>?_);refine De (CY Y λw' h=>⟨Y,e3,?_,h.fd [0,1] 1 Y⟩);exact A4 g (by omega) q l t x
         ·refine Ck (CY Y λw' h=>⟨Y,d,?_,h.fd [] 1 Y⟩);exact A4 g (by omega) q l t (CQ p (Nat.le_refl _) (by omega))
        ·refine PE 4 Y<|AH [3,4,16,22,171] Y<|G7 Y<|Ck (CY Y λw' h=>⟨Y,d,?_,h.fd [] 1 Y⟩);exact A4 g (by omega) q l t (CQ p (Nat.le_refl _) (by omega))
   ·refine Sr<|PE 2 Y<|Cr<|PE 2 Y<|Sr<|p1 Y<|q1 Y (B3 Y Y Y (r:=((c+m-1:Nat):Int)) (by omega) (by omega))<|Pe Y<|Cq<|Cb<|Cl (λm_ ac w'=>∃(s:Nat),∃(r:Nat),(max a (c+m-b)<=s)/\(s<=r)/\(r<=min m c)/\(Sea lt d (max a (c+m-b)) (min m c) (c+m) s r)/\m_=r-s/\Fits ac 177 [(1,nv a),(2,nv m),(3,nv b),(4,pv g1),(16,nv c),(17,nv (c+m)),(18,nv s),(19,nv r),(20,nv (c+m-1))]/\St w0 (bx g1 [(.func (.func lf) #[] lc.toArray),(.func (.func sf) #[] sc.toArray)]::C d::Hs) w') ?_ ?_
    ·refine λac w' hf h=>⟨_,a,m,?_,?_,?_,?_,Y,hf.wk Y,h⟩
     ·omega
     ·omega
     ·omega
     ·rw[show max a (c+m-b)=a from by omega,show min m c=m from by omega];exact XR _ _ _ _
    ·rintro m_ ac w' ⟨s,r,h1,h2,h3,a1,rfl,hf,h⟩;refine D.use ?_ hf h;clear hf h ac w';refine Cq<|Sr<|PE 3 Y<|Cd Y (λb5=>?_) λb5=>?_
     ·refine Sk<|Cb<|Sr<|P2 Y Y<|ad (s+r) Y<|q1 Y (XX (n:=(s+r)) C5v ⟨_,LO⟩ Y Y (by omega))<|q1 Y (dQ (n:=(s+r)) Y Y Y (by omega))<|q1 Y (dP (n:=((s+r)/2)) LO ⟨_,C5v⟩ Y Y (by omega))<|Pe Y<|Sr<|fl 0 C6Q C7A Y<|P2 Y Y<|q1 Y (B3 Y Y Y (r:=((c+m-1-((s+r)/2):Nat):Int)) (by omega) (by omega))<|p1 Y<|BZ [1] 0 Y<|li Y<|dO S hp (i:=c+m-1-((s+r)/2)) (j:=(s+r)/2) Y Y Y Y Y (by omega) (by omega) ?_;refine Pe Y<|AH [1,2,3,4,16,17,18,19,20,21,131] Y<|Dh (_::_::Hs) Y<|CN Y (λb6=>?_) λb6=>?_
      ·refine Cr<|p1 Y<|ad ((s+r)/2+1) Y<|p1 Y<|De<|Xb<|Xt λac w' hf h=>⟨_,?_,(s+r)/2+1,r,?_,?_,?_,?_,Y,hf.wk Y,h.fd [0,1] 0 Y⟩
       ·omega
       ·omega
       ·omega
       ·assumption
       ·exact sW ho a1 y z (by omega) (by omega) (by omega) (by omega) (by omega) (by omega) (by omega) (by omega) ‹_›
      ·refine Cr<|P2 Y Y<|De<|Xb<|Xt λac w' hf h=>⟨_,?_,s,(s+r)/2,?_,?_,?_,?_,Y,hf.wk Y,h.fd [0,1] 0 Y⟩
       ·omega
       ·assumption
       ·omega
       ·omega
       ·exact sX ho a1 y z (by omega) (by omega) (by omega) (by omega) (by omega) (by omega) (by omega) (by omega) ‹_›
     ·refine Cx<|Xx<|Xx<|Xe<|Xt<|Sr<|P2 Y Y<|q1 Y (B3 Y Y Y (r:=((c+m-s:Nat):Int)) (by omega) (by omega))<|Pe Y<|Cq<|Sr<|P3 Y Y Y<|p1 Y<|EY 141 Y Y (λb7=>?_) λb7=>?_
      ·refine PE 4 Y<|AH [1,2,3,4,16,18,22,145] Y<|Cd Y (λb8=>?_) λb8=>?_
       ·refine Cr<|q1 Y (C9 0 C5H Y Y Y)<|P3 Y Y Y<|BZ [1] 0 Y<|li Y (GK zR Y Y Y Y (λw' h=>L1 S ho a7 _ w' d hp s m (c+m-s) (by omega) (by omega) (by omega) h) λe1 a2=>?_);refine Dx<|Dh (C e1::_::Hs) Y<|Cq<|Cq ?_;have g:XQ d e1 s m (c+m-s):=by exact a2
        have v:Sea lt d (max a (c+m-b)) (min m c) (c+m) s s:=by rwa [show r=s from by omega] at a1
        have q:sY lt e1 a c b:=OA ho rfl rfl v y z (by omega) (by omega) (by omega) (by omega) (by omega) (by omega) (by omega) (by omega) (by omega) g;have l:JA lt d e1:=OC g (by omega) (by omega) (by omega) (IR ho rfl rfl v y z (by omega) (by omega) (by omega) (by omega) (by omega) (by omega) (by omega) (by omega) (by omega));have o:=OB g y z (by omega) (by omega) (by omega) (by omega);rw[show s+(c+m-s-m)=c from by omega] at o;refine Cr<|P3 Y Y Y<|p1 Y<|EY 154 Y Y (λb9=>?_) λb9=>?_
        ·refine PE 4 Y<|Cd Y (λba=>?_) λba=>?_
         ·refine Cr<|q1 Y (C9 1 C5H Y Y Y)<|P3 Y Y Y<|li Y (GK A3j Y Y Y Y (λw' h=>ih (c-a) (by omega) _ w' e1 (a2.2.1.trans hp) a s c (by omega) (by omega) (by omega) o.1 o.2.1 (Nat.le_refl _) h) λe2 a0=>?_);refine Dx<|AH [3,4,16,22] Y<|Dh (C e2::_::Hs) Y<|Cq ?_;have t:Chg e1 e2 a c/\FI lt e2 a c/\JA lt e1 e2:=by exact a0
          have p:=BL o.2.2.1 t.1 (.inr (Nat.le_refl _));have u:=BL o.2.2.2 t.1 (.inr (by omega));refine Cr<|P3 Y Y Y<|p1 Y<|EY 167 Y Y (λbb=>?_) λbb=>?_
          ·refine PE 4 Y<|Cd Y (λbc=>?_) λbc=>?_
           ·refine Cr<|q1 Y (C9 1 C5H Y Y Y)<|P3 Y Y Y<|li Y (GK A3j Y Y Y Y (λw' h=>ih (b-c) (by omega) _ w' e2 (a0.1.perm.trans<|a2.2.1.trans hp) c (c+m-s) b (by omega) (by omega) ‹_› p u (Nat.le_refl _) h) λe3 x=>?_);refine De (CY Y λw' h=>⟨Y,e3,?_,h.fd [0,1] 1 Y⟩);exact A4 g (by omega) q l t x
           ·refine Ck (CY Y λw' h=>⟨Y,e2,?_,h.fd [0,1] 1 Y⟩);exact A4 g (by omega) q l t (CQ p (Nat.le_refl _) (by omega))
          ·refine PE 4 Y<|G7 Y<|Ck (CY Y λw' h=>⟨Y,e2,?_,h.fd [0,1] 1 Y⟩);exact A4 g (by omega) q l t (CQ p (Nat.le_refl _) (by omega))
         ·refine Sk<|AH [3,4,16,22] Y<|Cq ?_;have t:Chg e1 e1 a c/\FI lt e1 a c/\JA lt e1 e1:=by exact CQ o.1 (Nat.le_refl _) (by omega)
          have p:=BL o.2.2.1 t.1 (.inr (Nat.le_refl _));have u:=BL o.2.2.2 t.1 (.inr (by omega));refine Cr<|P3 Y Y Y<|p1 Y<|EY 167 Y Y (λbd=>?_) λbd=>?_
          ·refine PE 4 Y<|Cd Y (λbe=>?_) λbe=>?_
           ·refine Cr<|q1 Y (C9 1 C5H Y Y Y)<|P3 Y Y Y<|li Y (GK A3j Y Y Y Y (λw' h=>ih (b-c) (by omega) _ w' e1 (a2.2.1.trans hp) c (c+m-s) b (by omega) (by omega) ‹_› p u (Nat.le_refl _) h) λe3 x=>?_);refine De (CY Y λw' h=>⟨Y,e3,?_,h.fd [0,1] 1 Y⟩);exact A4 g (by omega) q l t x
           ·refine Ck (CY Y λw' h=>⟨Y,e1,?_,h.fd [0,1] 1 Y⟩);exact A4 g (by omega) q l t (CQ p (Nat.le_refl _) (by omega))
          ·refine PE 4 Y<|G7 Y<|Ck (CY Y λw' h=>⟨Y,e1,?_,h.fd [0,1] 1 Y⟩);exact A4 g (by omega) q l t (CQ p (Nat.le_refl _) (by omega))
        ·refine PE 4 Y<|G7 Y<|Sk<|AH [3,4,16,22] Y<|Cq ?_;have t:Chg e1 e1 a c/\FI lt e1 a c/\JA lt e1 e1:=by exact CQ o.2.1 (by omega) (Nat.le_refl _)
         have p:=BL o.2.2.1 t.1 (.inr (Nat.le_refl _));have u:=BL o.2.2.2 t.1 (.inr (by omega));refine Cr<|P3 Y Y Y<|p1 Y<|EY 167 Y Y (λbf=>?_) λbf=>?_
         ·refine PE 4 Y<|Cd Y (λbg=>?_) λbg=>?_
          ·refine Cr<|q1 Y (C9 1 C5H Y Y Y)<|P3 Y Y Y<|li Y (GK A3j Y Y Y Y (λw' h=>ih (b-c) (by omega) _ w' e1 (a2.2.1.trans hp) c (c+m-s) b (by omega) (by omega) ‹_› p u (Nat.le_refl _) h) λe3 x=>?_);refine De (CY Y λw' h=>⟨Y,e3,?_,h.fd [0,1] 1 Y⟩);exact A4 g (by omega) q l t x
          ·refine Ck (CY Y λw' h=>⟨Y,e1,?_,h.fd [0,1] 1 Y⟩);exact A4 g (by omega) q l t (CQ p (Nat.le_refl _) (by omega))
         ·refine PE 4 Y<|G7 Y<|Ck (CY Y λw' h=>⟨Y,e1,?_,h.fd [0,1] 1 Y⟩);exact A4 g (by omega) q l t (CQ p (Nat.le_refl _) (by omega))
       ·refine Sk<|Cq<|Cq ?_;have g:XQ d d s m (c+m-s):=by exact QM (by omega) (by omega) (by omega)
        have v:Sea lt d (max a (c+m-b)) (min m c) (c+m) s s:=by rwa [show r=s from by omega] at a1
        have q:sY lt d a c b:=OA ho rfl rfl v y z (by omega) (by omega) (by omega) (by omega) (by omega) (by omega) (by omega) (by omega) (by omega) g;have l:JA lt d d:=OC g (by omega) (by omega) (by omega) (IR ho rfl rfl v y z (by omega) (by omega) (by omega) (by omega) (by omega) (by omega) (by omega) (by omega) (by omega));have o:=OB g y z (by omega) (by omega) (by omega) (by omega);rw[show s+(c+m-s-m)=c from by omega] at o;refine Cr<|P3 Y Y Y<|p1 Y<|EY 154 Y Y (λbh=>?_) λbh=>?_
        ·refine PE 4 Y<|Cd Y (λbi=>?_) λbi=>?_
         ·refine Cr<|q1 Y (C9 0 C5H Y Y Y)<|P3 Y Y Y<|BZ [1] 0 Y<|li Y (GK A3j Y Y Y Y (λw' h=>ih (c-a) (by omega) _ w' d hp a s c (by omega) (by omega) (by omega) o.1 o.2.1 (Nat.le_refl _) h) λe2 a0=>?_);refine Dx<|AH [3,4,16,22] Y<|Dh (C e2::_::Hs) Y<|Cq ?_;have t:Chg d e2 a c/\FI lt e2 a c/\JA lt d e2:=by exact a0
          have p:=BL o.2.2.1 t.1 (.inr (Nat.le_refl _));have u:=BL o.2.2.2 t.1 (.inr (by omega));refine Cr<|P3 Y Y Y<|p1 Y<|EY 167 Y Y (λbj=>?_) λbj=>?_
          ·refine PE 4 Y<|Cd Y (λbk=>?_) λbk=>?_
           ·refine Cr<|q1 Y (C9 1 C5H Y Y Y)<|P3 Y Y Y<|li Y (GK A3j Y Y Y Y (λw' h=>ih (b-c) (by omega) _ w' e2 (a0.1.perm.trans hp) c (c+m-s) b (by omega) (by omega) ‹_› p u (Nat.le_refl _) h) λe3 x=>?_);refine De (CY Y λw' h=>⟨Y,e3,?_,h.fd [0,1] 1 Y⟩);exact A4 g (by omega) q l t x
           ·refine Ck (CY Y λw' h=>⟨Y,e2,?_,h.fd [0,1] 1 Y⟩);exact A4 g (by omega) q l t (CQ p (Nat.le_refl _) (by omega))
          ·refine PE 4 Y<|G7 Y<|Ck (CY Y λw' h=>⟨Y,e2,?_,h.fd [0,1] 1 Y⟩);exact A4 g (by omega) q l t (CQ p (Nat.le_refl _) (by omega))
         ·refine Sk<|Cq ?_;have t:Chg d d a c/\FI lt d a c/\JA lt d d:=by exact CQ o.1 (Nat.le_refl _) (by omega)
          have p:=BL o.2.2.1 t.1 (.inr (Nat.le_refl _));have u:=BL o.2.2.2 t.1 (.inr (by omega));refine Cr<|P3 Y Y Y<|p1 Y<|EY 167 Y Y (λbl=>?_) λbl=>?_
          ·refine PE 4 Y<|AH [3,4,16,22,171] Y<|Cd Y (λbm=>?_) λbm=>?_
           ·refine Cr<|q1 Y (C9 0 C5H Y Y Y)<|P3 Y Y Y<|BZ [1] 0 Y<|li Y (GK A3j Y Y Y Y (λw' h=>ih (b-c) (by omega) _ w' d hp c (c+m-s) b (by omega) (by omega) ‹_› p u (Nat.le_refl _) h) λe3 x=>?_);refine De (CY Y λw' h=>⟨Y,e3,?_,h.fd [0,1] 1 Y⟩);exact A4 g (by omega) q l t x
           ·refine Ck (CY Y λw' h=>⟨Y,d,?_,h.fd [] 1 Y⟩);exact A4 g (by omega) q l t (CQ p (Nat.le_refl _) (by omega))
          ·refine PE 4 Y<|AH [3,4,16,22,171] Y<|G7 Y<|Ck (CY Y λw' h=>⟨Y,d,?_,h.fd [] 1 Y⟩);exact A4 g (by omega) q l t (CQ p (Nat.le_refl _) (by omega))
        ·refine PE 4 Y<|G7 Y<|Sk<|Cq ?_;have t:Chg d d a c/\FI lt d a c/\JA lt d d:=by exact CQ o.1 (Nat.le_refl _) (by omega)
         have p:=BL o.2.2.1 t.1 (.inr (Nat.le_refl _));have u:=BL o.2.2.2 t.1 (.inr (by omega));refine Cr<|P3 Y Y Y<|p1 Y<|EY 167 Y Y (λbn=>?_) λbn=>?_
         ·refine PE 4 Y<|AH [3,4,16,22,171] Y<|Cd Y (λbo=>?_) λbo=>?_
          ·refine Cr<|q1 Y (C9 0 C5H Y Y Y)<|P3 Y Y Y<|BZ [1] 0 Y<|li Y (GK A3j Y Y Y Y (λw' h=>ih (b-c) (by omega) _ w' d hp c (c+m-s) b (by omega) (by omega) ‹_› p u (Nat.le_refl _) h) λe3 x=>?_);refine De (CY Y λw' h=>⟨Y,e3,?_,h.fd [0,1] 1 Y⟩);exact A4 g (by omega) q l t x
          ·refine Ck (CY Y λw' h=>⟨Y,d,?_,h.fd [] 1 Y⟩);exact A4 g (by omega) q l t (CQ p (Nat.le_refl _) (by omega))
         ·refine PE 4 Y<|AH [3,4,16,22,171] Y<|G7 Y<|Ck (CY Y λw' h=>⟨Y,d,?_,h.fd [] 1 Y⟩);exact A4 g (by omega) q l t (CQ p (Nat.le_refl _) (by omega))
      ·refine PE 4 Y<|AH [1,2,3,4,16,18,22,145] Y<|G7 Y<|Sk<|Cq<|Cq ?_;have g:XQ d d s m (c+m-s):=by exact QM (by omega) (by omega) (by omega)
       have v:Sea lt d (max a (c+m-b)) (min m c) (c+m) s s:=by rwa [show r=s from by omega] at a1
       have q:sY lt d a c b:=OA ho rfl rfl v y z (by omega) (by omega) (by omega) (by omega) (by omega) (by omega) (by omega) (by omega) (by omega) g;have l:JA lt d d:=OC g (by omega) (by omega) (by omega) (IR ho rfl rfl v y z (by omega) (by omega) (by omega) (by omega) (by omega) (by omega) (by omega) (by omega) (by omega));have o:=OB g y z (by omega) (by omega) (by omega) (by omega);rw[show s+(c+m-s-m)=c from by omega] at o;refine Cr<|P3 Y Y Y<|p1 Y<|EY 154 Y Y (λbp=>?_) λbp=>?_
       ·refine PE 4 Y<|Cd Y (λbq=>?_) λbq=>?_
        ·refine Cr<|q1 Y (C9 0 C5H Y Y Y)<|P3 Y Y Y<|BZ [1] 0 Y<|li Y (GK A3j Y Y Y Y (λw' h=>ih (c-a) (by omega) _ w' d hp a s c (by omega) (by omega) (by omega) o.1 o.2.1 (Nat.le_refl _) h) λe2 a0=>?_);refine Dx<|AH [3,4,16,22] Y<|Dh (C e2::_::Hs) Y<|Cq ?_;have t:Chg d e2 a c/\FI lt e2 a c/\JA lt d e2:=by exact a0
         have p:=BL o.2.2.1 t.1 (.inr (Nat.le_refl _));have u:=BL o.2.2.2 t.1 (.inr (by omega));refine Cr<|P3 Y Y Y<|p1 Y<|EY 167 Y Y (λbr=>?_) λbr=>?_
         ·refine PE 4 Y<|Cd Y (λbs=>?_) λbs=>?_
          ·refine Cr<|q1 Y (C9 1 C5H Y Y Y)<|P3 Y Y Y<|li Y (GK A3j Y Y Y Y (λw' h=>ih (b-c) (by omega) _ w' e2 (a0.1.perm.trans hp) c (c+m-s) b (by omega) (by omega) ‹_› p u (Nat.le_refl _) h) λe3 x=>?_);refine De (CY Y λw' h=>⟨Y,e3,?_,h.fd [0,1] 1 Y⟩);exact A4 g (by omega) q l t x
          ·refine Ck (CY Y λw' h=>⟨Y,e2,?_,h.fd [0,1] 1 Y⟩);exact A4 g (by omega) q l t (CQ p (Nat.le_refl _) (by omega))
         ·refine PE 4 Y<|G7 Y<|Ck (CY Y λw' h=>⟨Y,e2,?_,h.fd [0,1] 1 Y⟩);exact A4 g (by omega) q l t (CQ u (by omega) (Nat.le_refl _))
        ·refine Sk<|Cq ?_;have t:Chg d d a c/\FI lt d a c/\JA lt d d:=by exact CQ o.1 (Nat.le_refl _) (by omega)
         have p:=BL o.2.2.1 t.1 (.inr (Nat.le_refl _));have u:=BL o.2.2.2 t.1 (.inr (by omega));refine Cr<|P3 Y Y Y<|p1 Y<|EY 167 Y Y (λbt=>?_) λbt=>?_
         ·refine PE 4 Y<|AH [3,4,16,22,171] Y<|Cd Y (λbu=>?_) λbu=>?_
          ·refine Cr<|q1 Y (C9 0 C5H Y Y Y)<|P3 Y Y Y<|BZ [1] 0 Y<|li Y (GK A3j Y Y Y Y (λw' h=>ih (b-c) (by omega) _ w' d hp c (c+m-s) b (by omega) (by omega) ‹_› p u (Nat.le_refl _) h) λe3 x=>?_);refine De (CY Y λw' h=>⟨Y,e3,?_,h.fd [0,1] 1 Y⟩);exact A4 g (by omega) q l t x
          ·refine Ck (CY Y λw' h=>⟨Y,d,?_,h.fd [] 1 Y⟩);exact A4 g (by omega) q l t (CQ p (Nat.le_refl _) (by omega))
         ·refine PE 4 Y<|AH [3,4,16,22,171] Y<|G7 Y<|Ck (CY Y λw' h=>⟨Y,d,?_,h.fd [] 1 Y⟩);exact A4 g (by omega) q l t (CQ u (by omega) (Nat.le_refl _))
       ·refine PE 4 Y<|G7 Y<|Sk<|Cq ?_;have t:Chg d d a c/\FI lt d a c/\JA lt d d:=by exact CQ o.1 (Nat.le_refl _) (by omega)
        have p:=BL o.2.2.1 t.1 (.inr (Nat.le_refl _));have u:=BL o.2.2.2 t.1 (.inr (by omega));refine Cr<|P3 Y Y Y<|p1 Y<|EY 167 Y Y (λbv=>?_) λbv=>?_
        ·refine PE 4 Y<|AH [3,4,16,22,171] Y<|Cd Y (λbw=>?_) λbw=>?_
         ·refine Cr<|q1 Y (C9 0 C5H Y Y Y)<|P3 Y Y Y<|BZ [1] 0 Y<|li Y (GK A3j Y Y Y Y (λw' h=>ih (b-c) (by omega) _ w' d hp c (c+m-s) b (by omega) (by omega) ‹_› p u (Nat.le_refl _) h) λe3 x=>?_);refine De (CY Y λw' h=>⟨Y,e3,?_,h.fd [0,1] 1 Y⟩);exact A4 g (by omega) q l t x
         ·refine Ck (CY Y λw' h=>⟨Y,d,?_,h.fd [] 1 Y⟩);exact A4 g (by omega) q l t (CQ p (Nat.le_refl _) (by omega))
        ·refine PE 4 Y<|AH [3,4,16,22,171] Y<|G7 Y<|Ck (CY Y λw' h=>⟨Y,d,?_,h.fd [] 1 Y⟩);exact A4 g (by omega) q l t (CQ p (Nat.le_refl _) (by omega))
theorem RZ{α:Type} [Inhabited α]{C:List α->Chunk}{lt:α->α->Bool}{d0:List α}{lf sf:Nat}{lc sc:List Value}{w0:World}(S:Srt Tryz.prog C lt d0 lf lc sf sc w0)(ho:Ordr lt)(t:d0.length<=2305843009213693951)(r:List Chunk)(w:World)(d:List α)(hp:List.Perm d d0)(n:Nat)(hn:n=d0.length)(a2:St w0 (C d::r) w):Cy 162 [(.agg #[(.func (.func lf) #[] lc.toArray),(.func (.func sf) #[] sc.toArray)]),(nv n)] w (λe_ w'=>e_= .returned (.tuple #[])/\∃e,(List.Perm e d/\FI lt e 0 n/\JA lt d e)/\St w0 (C e::r) w'):=by
 have ab:d.length=d0.length:=hp.length_eq;refine CX 57 Tryz.func162 Y Y Y a2<|Sr (bX Y λg1=>?_);refine Dx<|Dh (bx g1 [(.func (.func lf) #[] lc.toArray),(.func (.func sf) #[] sc.toArray)]::C d::r) Y<|Sr<|Pe Y<|Sr<|PE 3 Y<|Cq<|Cb<|Cl (λz h w'=>∃(a:Nat),∃(b:Nat),∃(e:List α),(b=a+20)/\(a<=n)/\(∃q0,a=q0*20)/\(List.Perm e d)/\(Bld lt e 20 a)/\(JA lt d e)/\z=n-a/\Fits h 57 [(1,nv n),(2,pv g1),(4,iv 20),(5,nv a),(6,nv b)]/\St w0 (bx g1 [(.func (.func lf) #[] lc.toArray),(.func (.func sf) #[] sc.toArray)]::C e::r) w') ?_ ?_
 ·refine λh w' g c=>⟨_,0,20,d,?_,?_,?_,?_,?_,?_,Y,g.wk Y,c⟩
  ·omega
  ·omega
  ·exact⟨0,rfl⟩
  ·exact List.Perm.refl _
  ·exact dG _ (by omega)
  ·exact NR _
 ·rintro z h w' ⟨a,b,e,hb,a8,q,l,hB,a1,rfl,g,c⟩;refine D.use ?_ g c;clear g c h w';refine Cq<|Sr<|PE 3 Y<|Dh (_::_::r) Y<|Cd Y (λa3=>?_) λa3=>?_
  ·refine Sk<|Cb<|Sr<|q1 Y (C9 0 C5H Y Y Y)<|P2 Y Y<|BZ [1] 0 Y<|li Y (GK bC Y Y Y Y (λw' c=>HZ S ho t _ w' e (l.trans hp) a b (by omega) (by omega) c) λe2 o=>?_);refine Dx<|Dh (C e2::_::r) Y<|Sr<|PE 2 Y<|Cr<|P2 Y Y<|ad (b+20) Y<|p1 Y<|De<|Xb<|Xt λh w' g c=>⟨_,?_,b,b+20,e2,?_,?_,?_,?_,?_,?_,Y,g.wk Y,c.fd [0,1] 0 Y⟩
   ·omega
   ·omega
   ·omega
   ·exact(QN hB q (by omega) hb o.1 o.2.1).2
   ·exact o.1.perm.trans l
   ·exact(QN hB q (by omega) hb o.1 o.2.1).1
   ·exact G5 a1 o.2.2
  ·refine Cx<|Xx<|Xx<|Xe<|Xt<|Sr<|q1 Y (C9 0 C5H Y Y Y)<|P2 Y Y<|BZ [1] 0 Y<|li Y (GK bC Y Y Y Y (λw' c=>HZ S ho t _ w' e (l.trans hp) a n ‹_› (by omega) c) λe3 u=>?_);refine Dx<|Dh (C e3::_::r) Y<|Cb<|Cl (λz h w'=>∃(f:Nat),∃(e:List α),(20<=f)/\(f<=2*n+20)/\(List.Perm e d)/\(yA lt e f n 0)/\(JA lt d e)/\z=n-f/\Fits h 57 [(1,nv n),(2,pv g1),(4,nv f)]/\St w0 (C e::bx g1 [(.func (.func lf) #[] lc.toArray),(.func (.func sf) #[] sc.toArray)]::r) w') ?_ ?_
   ·refine λh w' g c=>⟨_,20,e3,?_,?_,?_,?_,?_,Y,g.wk Y,c⟩
    ·omega
    ·omega
    ·exact u.1.perm.trans l
    ·exact ZS (dH hB u.1) q u.2.1 (by omega)
    ·exact G5 a1 u.2.2
   ·rintro z h w' ⟨f,e,aa,a9,l,hK,y,rfl,g,c⟩;refine D.use ?_ g c;clear g c h w';refine Cq<|Sr<|PE 3 Y<|Dh (_::_::r) Y<|Cd Y (λa4=>?_) λa4=>?_
    ·refine Sk<|Cb<|Sr<|p1 Y<|q1 Y (ZW (m:=2) (n:=f) Y Y Y (by omega))<|PE 2 Y<|Cq<|Cb<|Cl (λz h w'=>∃(a:Nat),∃(b:Nat),∃(e:List α),(b=a+2*f)/\(a<=n)/\(∃q0,a=q0*(2*f))/\(List.Perm e d)/\(Bld lt e (2*f) a)/\(yA lt e f n a)/\(JA lt d e)/\z=n-a/\Fits h 57 [(1,nv n),(2,pv g1),(4,nv f),(5,nv a),(6,nv b)]/\St w0 (C e::bx g1 [(.func (.func lf) #[] lc.toArray),(.func (.func sf) #[] sc.toArray)]::r) w') ?_ ?_
     ·refine λh w' g c=>⟨_,0,2*f,e,?_,?_,?_,?_,?_,?_,?_,Y,g.wk Y,c⟩
      ·omega
      ·omega
      ·exact⟨0,by omega⟩
      ·exact l
      ·exact dG _ (by omega)
      ·exact hK
      ·exact y
     ·rintro z h w' ⟨a,b,e,hb,a8,q,i,x,p,s,rfl,g,c⟩;refine D.use ?_ g c;clear g c h w';refine Cq<|Sr<|PE 3 Y<|Cd Y (λa5=>?_) λa5=>?_
      ·refine Sk<|Cb<|Sr<|q1 Y (C9 1 C5H Y Y Y)<|P3 Y Y Y<|ad (a+f) Y<|p1 Y<|li Y (GK A3j Y Y Y Y (λw' c=>KP S ho t (b-a) _ w' e (i.trans hp) a (a+f) b (by omega) (by omega) (by omega) (ZT (QO p q).1 (by omega)) (by have a6:=(QO p q).2;rw[show b=a+f+f from by omega];exact ZT a6 (by omega)) (Nat.le_refl _) c) λe4 k=>?_);refine Dx<|Dh (C e4::_::r) Y<|Sr<|PE 2 Y<|Cr<|P2 Y Y<|q1 Y (ZW (m:=2) (n:=f) Y Y Y (by omega))<|ad (b+2*f) Y<|p1 Y<|De<|Xb<|Xt λh w' g c=>⟨_,?_,b,b+2*f,e4,?_,?_,?_,?_,?_,?_,?_,Y,g.wk Y,c⟩
       ·omega
       ·omega
       ·omega
       ·exact(QN x q (by omega) hb k.1 k.2.1).2
       ·exact k.1.perm.trans i
       ·exact(QN x q (by omega) hb k.1 k.2.1).1
       ·exact yB p k.1 (by omega)
       ·exact G5 s k.2.2
      ·refine Cx<|Xx<|Xx<|Xe<|Xt<|Cq<|Sr<|P2 Y Y<|ad (a+f) Y<|Pe Y<|Sr<|PE 3 Y<|Cd Y (λa7=>?_) λa7=>?_
       ·refine Cr<|q1 Y (C9 1 C5H Y Y Y)<|P3 Y Y Y<|li Y (GK A3j Y Y Y Y (λw' c=>KP S ho t (n-a) _ w' e (i.trans hp) a (a+f) n (by omega) (by omega) (by omega) (ZT (QO p q).1 (by omega)) (dI (QO p q).2 (by omega)) (Nat.le_refl _) c) λe5 v=>?_);refine Dx<|AH [1,2,4] Y<|Dh (C e5::_::r) Y ?_;have a0:JA lt d e5:=by exact G5 s v.2.2
        have j:List.Perm e5 d/\yA lt e5 (f*2) n 0:=by rw[Nat.mul_comm f 2];exact⟨v.1.perm.trans i,ZS (dH x v.1) q v.2.1 (by omega)⟩
        refine Cr<|p1 Y<|q1 Y (ZW (m:=f) (n:=2) Y Y Y (by omega))<|p1 Y<|De<|Xb<|Xt λh w' g c=>⟨_,?_,f*2,e5,?_,?_,?_,?_,?_,Y,g.wk Y,c⟩
        ·omega
        ·omega
        ·omega
        ·exact j.1
        ·exact j.2
        ·exact a0
       ·refine Sk ?_;have a0:JA lt d e:=by exact s
        have j:List.Perm e d/\yA lt e (f*2) n 0:=by rw[Nat.mul_comm f 2];exact⟨i,ZS x q (dI (QO p q).1 (by omega)) (by omega)⟩
        refine Cr<|p1 Y<|q1 Y (ZW (m:=f) (n:=2) Y Y Y (by omega))<|p1 Y<|De<|Xb<|Xt λh w' g c=>⟨_,?_,f*2,e,?_,?_,?_,?_,?_,Y,g.wk Y,c⟩
        ·omega
        ·omega
        ·omega
        ·exact j.1
        ·exact j.2
        ·exact a0
    ·refine Cx<|Xx<|Xx<|Xe (CY Y λw' c=>⟨Y,e,?_,c.fd [0,1] 1 Y⟩);exact⟨l,yC hK (by omega),y⟩
set_option maxHeartbeats 2000000 in
theorem R0{α:Type} [Inhabited α]{C:List α->Chunk}{lt:α->α->Bool}{a:List α}{f g:Nat}{h j:List Value}{w0:World}(S:Srt Tryz.prog C lt a f h g j w0)(y:Ordr lt)(l:a.length<=2305843009213693951)(m:List Chunk)(w:World)(d:List α)(hp:List.Perm d a){t o n c:Nat}{i:TypeInfo}{p:Option Addr}(x:Tryz.prog.info? t=some i)(b:i.desc= .slice o)(q:Tryz.prog.packed t=false)(hn:n=a.length)(r:∀w,(Extern.ReflectliteSwapper.swapper "internal/reflectlite" (Extern.ReflectliteValue.valueError "Swapper") #[.iface t (.slice p n c)]).run Tryz.prog w= .ok (.func (.func g) #[] j.toArray) w)(s:St w0 (C d::m) w):Cy 129 [(.iface t (.slice p n c)),(.func (.func f) #[] h.toArray)] w (λo w'=>o= .returned (.tuple #[])/\∃e,(List.Perm e d/\FI lt e 0 n/\JA lt d e)/\St w0 (C e::m) w'):=by
 have a0:d.length=a.length:=hp.length_eq;refine CX 16 Tryz.func129 Y Y Y s<|Sr<|p1 Y<|li Y (A5i Tryz.func160 (by kernel_rfl) (by kernel_rfl) (by kernel_rfl) (by kernel_rfl) x b Y Y Y Y λk=>?_);refine aL C8e Y λg2=>?_
 refine li Y<|AZ (vs:=[typeHandle Tryz.prog t,pv k,.int .u64 151]) (cs':=[typeHandle Tryz.prog t,pv k,.int .u64 151]) 0 C8f Y Y Y Y Y Y (AB Y<|AB Y<|AB Y BR) (by simp) Y ?_;refine Dx<|Dh (bx g2 [typeHandle Tryz.prog t,pv k,.int .u64 151]::bx k [.slice p n c]::C d::m) Y<|Sr<|p1 Y<|q1 Y (A5j Tryz.func161 (by kernel_rfl) (by kernel_rfl) (by kernel_rfl) (by kernel_rfl) r Y Y)<|Pe Y<|Cr<|P2 Y Y<|q1 Y (FY (vs:=[(0,(.func (.func f) #[] h.toArray)),(1,(.func (.func g) #[] j.toArray))]) (cs:=[(.func (.func f) #[] h.toArray),(.func (.func g) #[] j.toArray)]) Y (λ_=>by kernel_rfl) Y)<|q1 Y (C9 0 C8g Y Y Y)<|q1 Y (A5k 1 Tryz.func163 (by kernel_rfl) (by kernel_rfl) (by kernel_rfl) (by kernel_rfl) x b q Y Y Y)<|BZ [2] 0 Y<|li Y (GK qA Y Y Y Y (λw' v=>RZ S y l _ w' d hp n ‹_› v) λz u=>?_);refine De (CY Y λw' v=>⟨Y,z,?_,v.fd [0,2,2] 2 Y⟩);exact u
end Go.Sy.Sorts
