/-
  Contracts of functions of the program, walked (printed by a program of ours).
  Conditions: those that each theorem states.
-/
import Derived.Test.YtfmjgnjaoihefaaGreatDoorFct
import Derived.Test.YtfmjgnjaoihefaaGreatDoorProg
import Derived.Test.YtfmjgnjaoihefaaGreatDoorTypes
import Derived.Test.YtfmjgnjaoihefaaGreatDoorBase
import Derived.Test.YtfmjgnjaoihefaaGreatDoorSort
set_option linter.unusedVariables false
set_option maxRecDepth 20000
namespace Go.Sy.Sorts
open Go Go.RowKit Go.Proofs Go.Sy
theorem HG{α:Type} [Inhabited α]{C:List α->Chunk}{lt:α->α->Bool}{f:List α}{g h:Nat}{k l:List Value}{w0:World}(S:Srt Tryz.prog C lt f g k h l w0)(s:Ordr lt)(q:f.length<=2305843009213693951)(c:List Chunk)(w:World)(d:List α)(hp:List.Perm d f)(a:Nat)(b:Nat)(n:Nat)(m:a+n<=b)(r:b+n<=f.length)(o:St w0 (C d::c) w):Cy 290 [(.agg #[(.func (.func g) #[] k.toArray),(.func (.func h) #[] l.toArray)]),(nv a),(nv b),(nv n)] w (λe_ w'=>e_= .returned (.tuple #[])/\∃e,(SwR d e a b n)/\St w0 (C e::c) w'):=by
 have hdl:d.length=f.length:=hp.length_eq;refine CX 23 Tryz.func290 Y Y Y o (Sr (bX Y λg1=>?_));refine Dx (Dh (bx g1 [(.func (.func g) #[] k.toArray),(.func (.func h) #[] l.toArray)]::C d::c) Y (Sr (Pe Y (Cb (Cl (λm_ ac w'=>∃(i:Nat),∃(e:List α),(i<=n)/\(SwR d e a b i)/\m_=n-i/\Fits ac 23 [(1,(nv a)),(2,(nv b)),(3,(nv n)),(4,(pv g1)),(8,(nv i))]/\St w0 (bx g1 [(.func (.func g) #[] k.toArray),(.func (.func h) #[] l.toArray)]::C e::c) w') ?_ ?_)))))
 ·refine λac w' hf hs=>⟨_,0,d,?_,?_,Y,hf.wk Y,hs⟩
  ·omega
  ·exact sS _ _ _
 ·rintro m_ ac w' ⟨i,e,hi,hw,rfl,hf,hs⟩;refine D.use ?_ hf hs;clear hf hs ac w';refine Cq (Sr (P3 Y Y Y (Dx (Dh (_::_::c) Y (Cd Y (λp=>?_) (λp=>?_))))))
  ·refine Sk (Cq (Cb (Cr (fl 0 S5 jE Y (P2 Y Y (ad (a+i) Y (P2 Y Y (ad (b+i) Y (BZ [1] 0 Y (li Y (kM S (hw.2.1.trans hp) (i:=a+i) (j:=b+i) Y Y Y Y Y (by omega) (by omega) (by omega) ?_)))))))))));refine De (Xb (Xt (Dh (C (swp e (a+i) (b+i))::_::c) Y (Cr (p1 Y (ad (i+1) Y (Pe Y (λac w' hf hs=>⟨_,?_,i+1,swp e (a+i) (b+i),?_,?_,Y,hf.wk Y,hs.fd [0,1] 0 Y⟩))))))))
   ·omega
   ·omega
   ·exact sT hw (by omega) m (by omega)
  ·refine Cx (Xx (Xx (Xe (CY Y λw' hs=>⟨Y,e,?_,hs.fd [] 1 Y⟩))));rw[show n=i from by omega];exact hw
theorem L1{α:Type} [Inhabited α]{C:List α->Chunk}{lt:α->α->Bool}{k:List α}{n o:Nat}{p q:List Value}{w0:World}(S:Srt Tryz.prog C lt k n p o q w0)(s:Ordr lt)(g:k.length<=2305843009213693951)(h:List Chunk)(w:World)(d:List α)(hp:List.Perm d k)(a:Nat)(m:Nat)(b:Nat)(y:a<m)(z:m<b)(hb:b<=k.length)(t:St w0 (C d::h) w):Cy 281 [(.agg #[(.func (.func n) #[] p.toArray),(.func (.func o) #[] q.toArray)]),(nv a),(nv m),(nv b)] w (λe_ w'=>e_= .returned (.tuple #[])/\∃e,(XQ d e a m b)/\St w0 (C e::h) w'):=by
 have hdl:d.length=k.length:=hp.length_eq;refine CX 53 Tryz.func281 Y Y Y t (Sr (bX Y λg1=>?_));refine Dx (Dh (bx g1 [(.func (.func n) #[] p.toArray),(.func (.func o) #[] q.toArray)]::C d::h) Y (Sr (P2 Y Y (q1 Y (B3 Y Y Y (r:=((m-a:Nat):Int)) (by omega) (by omega)) (Pe Y (Sr (P2 Y Y (q1 Y (B3 Y Y Y (r:=((b-m:Nat):Int)) (by omega) (by omega)) (Pe Y (Cq (Cb (Cl (λm_ ac w'=>∃(i:Nat),∃(j:Nat),∃(e:List α),(0<i)/\(0<j)/\(i<=m)/\(m+j<=b)/\(List.Perm e d)/\(∀f,XQ e f (m-i) m (m+j)->XQ d f a m b)/\m_=i+j/\Fits ac 53 [(2,(nv m)),(4,(pv g1)),(8,(nv i)),(9,(nv j))]/\St w0 (bx g1 [(.func (.func n) #[] p.toArray),(.func (.func o) #[] q.toArray)]::C e::h) w') ?_ ?_))))))))))))
 ·refine λac w' hf hs=>⟨_,m-a,b-m,d,?_,?_,?_,?_,?_,?_,Y,hf.wk Y,hs⟩
  ·omega
  ·omega
  ·omega
  ·omega
  ·exact List.Perm.refl _
  ·intro f hf;rwa [show m-(m-a)=a from by omega,show m+(b-m)=b from by omega] at hf
 ·rintro m_ ac w' ⟨i,j,e,h0,h1,hi,hj,hpe,hr,rfl,hf,hs⟩;refine D.use ?_ hf hs;clear hf hs ac w';refine Cq (Sr (P3 Y Y Y (Dx (Dh (_::_::h) Y (Cn Y (λu=>?_) (λu=>?_))))))
  ·refine Sk (Cb (Sr (P3 Y Y Y (Dx (Cd Y (λv=>?_) (λv=>?_))))))
   ·refine Sr (q1 Y (C9 0 EM Y Y Y) (P2 Y Y (q1 Y (B3 Y Y Y (r:=((m-i:Nat):Int)) (by omega) (by omega)) (P2 Y Y (BZ [1] 0 Y (li Y (GK qK Y Y Y Y (λw' hs=>HG S s g _ w' e (hpe.trans hp) (m-i) m j (by omega) (by omega) hs) λl c=>?_)))))));refine Dx (Dh (C l::_::h) Y (Cr (P2 Y Y (q1 Y (B3 Y Y Y (r:=((i-j:Nat):Int)) (by omega) (by omega)) (p1 Y (De (Xb (Xt (λac w' hf hs=>⟨_,?_,i-j,j,l,?_,?_,?_,?_,?_,?_,Y,hf.wk Y,hs.fd [0,1] 0 Y⟩)))))))))
    ·omega
    ·omega
    ·assumption
    ·omega
    ·assumption
    ·exact c.2.1.trans hpe
    ·intro f hf;exact hr f (A2I c (by omega) (by omega) hf)
   ·refine Sr (q1 Y (C9 0 EM Y Y Y) (P2 Y Y (q1 Y (B3 Y Y Y (r:=((m-i:Nat):Int)) (by omega) (by omega)) (P2 Y Y (ad (m+j) Y (p1 Y (q1 Y (B3 Y Y Y (r:=((m+j-i:Nat):Int)) (by omega) (by omega)) (p1 Y (BZ [1] 0 Y (li Y (GK qK Y Y Y Y (λw' hs=>HG S s g _ w' e (hpe.trans hp) (m-i) (m+j-i) i (by omega) (by omega) hs) λl c=>?_)))))))))));refine Dx (AH [2,4,8,9] Y (Dh (C l::_::h) Y (Cr (P2 Y Y (q1 Y (B3 Y Y Y (r:=((j-i:Nat):Int)) (by omega) (by omega)) (p1 Y (De (Xb (Xt (λac w' hf hs=>⟨_,?_,i,j-i,l,?_,?_,?_,?_,?_,?_,Y,hf.wk Y,hs.fd [0,1] 0 Y⟩))))))))))
    ·omega
    ·assumption
    ·omega
    ·assumption
    ·omega
    ·exact c.2.1.trans hpe
    ·intro f hf;exact hr f (A2J c (by omega) (by omega) hf)
  ·refine Cx (Xx (Xx (Xe (Xt (Cr (q1 Y (C9 0 EM Y Y Y) (P2 Y Y (q1 Y (B3 Y Y Y (r:=((m-i:Nat):Int)) (by omega) (by omega)) (P2 Y Y (BZ [1] 0 Y (li Y (GK qK Y Y Y Y (λw' hs=>HG S s g _ w' e (hpe.trans hp) (m-i) m i (by omega) (by omega) hs) λe3 x=>?_))))))))))));refine De (CY Y λw' hs=>⟨Y,e3,?_,hs.fd [0,1] 1 Y⟩);exact hr _ (by have hq:=A2K x (by omega);rwa [show m+i=m+j from by omega] at hq)
theorem HZ{α:Type} [Inhabited α]{C:List α->Chunk}{lt:α->α->Bool}{k:List α}{l m:Nat}{n o:List Value}{w0:World}(S:Srt Tryz.prog C lt k l n m o w0)(t:Ordr lt)(u:k.length<=2305843009213693951)(g:List Chunk)(w:World)(d:List α)(hp:List.Perm d k)(a:Nat)(b:Nat)(v:a<=b)(hb:b<=k.length)(p:St w0 (C d::g) w):Cy 266 [(.agg #[(.func (.func l) #[] n.toArray),(.func (.func m) #[] o.toArray)]),(nv a),(nv b)] w (λe_ w'=>e_= .returned (.tuple #[])/\∃e,(Chg d e a b/\FI lt e a b/\JA lt d e)/\St w0 (C e::g) w'):=by
 have hdl:d.length=k.length:=hp.length_eq;refine CX 35 Tryz.func266 Y Y Y p (Sr (bX Y λg1=>?_));refine Dx (Dh (bx g1 [(.func (.func l) #[] n.toArray),(.func (.func m) #[] o.toArray)]::C d::g) Y (Sr (p1 Y (ad (a+1) Y (Pe Y (Cb (Cl (λm_ ac w'=>∃(i:Nat),∃(e:List α),(a+1<=i)/\(i<=b\/i=a+1)/\(Chg d e a b)/\(FI lt e a i)/\(JA lt d e)/\m_=b-i/\Fits ac 35 [(1,(nv a)),(2,(nv b)),(3,(pv g1)),(6,(nv i))]/\St w0 (bx g1 [(.func (.func l) #[] n.toArray),(.func (.func m) #[] o.toArray)]::C e::g) w') ?_ ?_)))))))
 ·refine λac w' hf hs=>⟨_,a+1,d,?_,?_,?_,?_,?_,Y,hf.wk Y,hs⟩
  ·omega
  ·omega
  ·exact Chg.refl _ _ _
  ·exact kE _ _
  ·exact NR _
 ·rintro m_ ac w' ⟨i,e,hia,hib,hc,hsr,hsb,rfl,hf,hs⟩;refine D.use ?_ hf hs;clear hf hs ac w';refine Cq (Sr (P3 Y Y Y (Dx (Dh (_::_::g) Y (Cd Y (λq=>?_) (λq=>?_))))))
  ·refine Sk (Cq (Cb (Sr (P2 Y Y (Dx (Cb (Cl (λm_ ac w'=>∃(j:Nat),∃(h:List α),(a<=j)/\(j<=i)/\(Chg d h a b)/\(gN lt h a i j)/\(JA lt d h)/\m_=j+1/\Fits ac 35 [(1,(nv a)),(2,(nv b)),(3,(pv g1)),(6,(nv i)),(7,(nv j))]/\St w0 (bx g1 [(.func (.func l) #[] n.toArray),(.func (.func m) #[] o.toArray)]::C h::g) w') ?_ ?_)))))))
   ·refine λac w' hf hs=>⟨_,i,e,?_,?_,?_,?_,?_,Y,hf.wk Y,hs⟩
    ·omega
    ·omega
    ·exact hc
    ·exact XP hsr
    ·exact hsb
   ·rintro m_ ac w' ⟨j,h,haj,hji,c,hin,f,rfl,hf,hs⟩;refine D.use ?_ hf hs;clear hf hs ac w';refine Cq (Sr (P3 Y Y Y (p1 Y (EY 19 Y Y (λs=>?_) (λs=>?_)))))
    ·refine fl 0 P8 bH Y (P2 Y Y (q1 Y (B3 Y Y Y (r:=((j-1:Nat):Int)) (by omega) (by omega)) (BZ [1] 0 Y (li Y (dO S (c.perm.trans hp) (i:=j) (j:=j-1) Y Y Y Y Y (by omega) (by omega) ?_)))));refine Pe Y (Dh (_::_::g) Y (Ci _ Y (λx=>?_) (λx=>?_)))
     ·refine Sk (Cq (Cb (Cr (fl 1 S5 jE Y (P2 Y Y (q1 Y (B3 Y Y Y (r:=((j-1:Nat):Int)) (by omega) (by omega)) (li Y (kM S (c.perm.trans hp) (i:=j) (j:=j-1) Y Y Y Y Y (by omega) (by omega) (by omega) ?_))))))));refine De (Xb (Xt (AH [1,2,3,6,7] Y (Dh (C (swp h j (j-1))::_::g) Y (Cr (p1 Y (q1 Y (B3 Y Y Y (r:=((j-1:Nat):Int)) (by omega) (by omega)) (Pe Y (λac w' hf hs=>⟨_,?_,j-1,swp h j (j-1),?_,?_,?_,?_,?_,Y,hf.wk Y,hs.fd [0,1] 0 Y⟩)))))))))
      ·omega
      ·omega
      ·omega
      ·exact c.trans (Chg.swp (by omega) (by omega) (by have:=c.len;omega))
      ·exact dD t hin (by omega) (by omega) (by have:=c.len;omega) ‹_›
      ·exact G5 f (ZU (by omega) (by have:=c.len;omega) ‹_›)
     ·refine Cx (Xx (Xx (Xe (Xb (Xt (Cr (p1 Y (ad (i+1) Y (Pe Y (λac w' hf hs=>⟨_,?_,i+1,h,?_,?_,?_,?_,?_,Y,hf.wk Y,hs.fd [0,1] 0 Y⟩))))))))))
      ·omega
      ·omega
      ·omega
      ·exact c
      ·exact dF t hin (by omega) (by omega) ‹_›
      ·exact f
    ·refine n1 Y (n1 Y (n1 Y (n1 Y (n1 Y (n1 Y (Pe Y (Dh (_::_::g) Y (G7 Y (Cx (Xx (Xx (Xe (Xb (Xt (Cr (p1 Y (ad (i+1) Y (Pe Y (λac w' hf hs=>⟨_,?_,i+1,h,?_,?_,?_,?_,?_,Y,hf.wk Y,hs⟩)))))))))))))))))))
     ·omega
     ·omega
     ·omega
     ·exact c
     ·exact dE hin (by omega)
     ·exact f
  ·refine Cx (Xx (Xx (Xe (CY Y λw' hs=>⟨Y,e,?_,hs.fd [] 1 Y⟩))));exact⟨hc,I3 hsr (Nat.le_refl _) (by omega),hsb⟩
set_option maxHeartbeats 4000000 in
theorem KP{α:Type} [Inhabited α]{C:List α->Chunk}{lt:α->α->Bool}{z:List α}{t u:Nat}{v x:List Value}{w0:World}(S:Srt Tryz.prog C lt z t v u x w0)(q:Ordr lt)(a0:z.length<=2305843009213693951)(f:Nat):∀(Hs:List Chunk) (w:World) (d:List α) (hp:List.Perm d z) (a:Nat) (m:Nat) (b:Nat) (ham:a<m) (hmb:m<b) (hb:b<=z.length) (g:FI lt d a m) (h:FI lt d m b) (hfu:b-a<=f) (hst:St w0 (C d::Hs) w),Cy 267 [(.agg #[(.func (.func t) #[] v.toArray),(.func (.func u) #[] x.toArray)]),(nv a),(nv m),(nv b)] w (λe_ w'=>e_= .returned (.tuple #[])/\∃e,(Chg d e a b/\FI lt e a b/\JA lt d e)/\St w0 (C e::Hs) w'):=by
 induction f using Nat.strongRecOn with
 |_ f ih=>
 intro Hs w d hp a m b ham hmb hb g h hfu hst;have hdl:d.length=z.length:=hp.length_eq;refine CX 177 Tryz.func267 Y Y Y hst (Sr (bX Y λg1=>?_));refine Dx (Dh (bx g1 [(.func (.func t) #[] v.toArray),(.func (.func u) #[] x.toArray)]::C d::Hs) Y (Cq (Sr (P2 Y Y (q1 Y (B3 Y Y Y (r:=((m-a:Nat):Int)) (by omega) (by omega)) (Pe Y (Ci _ Y (λy=>?_) (λy=>?_))))))))
 ·have bq:=eq_of_beq y;refine Sr (P2 Y Y (Dx (Sr (P2 Y Y (Dx (Cq (Cb (Cl (λm_ ac w'=>∃(i:Nat),∃(j:Nat),(m<=i)/\(i<=j)/\(j<=b)/\(Low lt d a m b i j)/\m_=j-i/\Fits ac 177 [(1,(nv a)),(4,(pv g1)),(8,(nv i)),(9,(nv j))]/\St w0 (bx g1 [(.func (.func t) #[] v.toArray),(.func (.func u) #[] x.toArray)]::C d::Hs) w') ?_ ?_))))))))
  ·refine λac w' hf hs=>⟨_,m,b,?_,?_,?_,?_,Y,hf.wk Y,hs⟩
   ·omega
   ·omega
   ·omega
   ·exact mR _ _ _ _
  ·rintro m_ ac w' ⟨i,j,h1,y,h3,hl,rfl,hf,hs⟩;refine D.use ?_ hf hs;clear hf hs ac w';refine Cq (Sr (P3 Y Y Y (Dx (Cd Y (λbr=>?_) (λbr=>?_)))))
   ·refine Sk (Cb (Sr (P2 Y Y (ad (i+j) Y (q1 Y (XX (n:=(i+j)) J5 ⟨_,LO⟩ Y Y (by omega)) (q1 Y (dQ (n:=(i+j)) Y Y Y (by omega)) (q1 Y (dP (n:=((i+j)/2)) LO ⟨_,J5⟩ Y Y (by omega)) (Pe Y (Sr (fl 0 P8 bH Y (P2 Y Y (BZ [1] 0 Y (li Y (dO S hp (i:=(i+j)/2) (j:=a) Y Y Y Y Y (by omega) (by omega) ?_))))))))))))));refine Dx (Dh (_::_::Hs) Y (Ci _ Y (λh4=>?_) (λh4=>?_)))
    ·refine Cr (p1 Y (ad ((i+j)/2+1) Y (p1 Y (De (Xb (Xt (λac w' hf hs=>⟨_,?_,(i+j)/2+1,j,?_,?_,?_,?_,Y,hf.wk Y,hs.fd [0,1] 0 Y⟩)))))))
     ·omega
     ·omega
     ·omega
     ·assumption
     ·exact A2L q hl h (by omega) (by omega) (by omega) (by omega) ‹_›
    ·refine Cr (P2 Y Y (De (Xb (Xt (λac w' hf hs=>⟨_,?_,i,(i+j)/2,?_,?_,?_,?_,Y,hf.wk Y,hs.fd [0,1] 0 Y⟩)))))
     ·omega
     ·assumption
     ·omega
     ·omega
     ·exact A2M q hl h (by omega) (by omega) (by omega) ‹_›
   ·refine Cx (Xx (Xx (Xe (Xt (Cq (Sr (P2 Y Y (Dx (Cb (Cl (λm_ ac w'=>∃(k:Nat),∃(e:List α),(a<=k)/\(k<=i-1)/\(Up d e a k b)/\(JA lt d e)/\m_=i-k/\Fits ac 177 [(4,(pv g1)),(8,(nv i)),(11,(nv k))]/\St w0 (bx g1 [(.func (.func t) #[] v.toArray),(.func (.func u) #[] x.toArray)]::C e::Hs) w') ?_ ?_))))))))))
    ·refine λac w' hf hs=>⟨_,a,d,?_,?_,?_,?_,Y,hf.wk Y,hs⟩
     ·omega
     ·omega
     ·exact sU _ _ _
     ·exact NR _
    ·rintro m_ ac w' ⟨k,e,hk,bs,hu,hsb,rfl,hf,hs⟩;refine D.use ?_ hf hs;clear hf hs ac w';refine Cq (Sr (P2 Y Y (q1 Y (B3 Y Y Y (r:=((i-1:Nat):Int)) (by omega) (by omega)) (Pe Y (Dh (_::_::Hs) Y (Cd Y (λbt=>?_) (λbt=>?_)))))))
     ·refine Sk (Cq (Cb (Cr (fl 0 S5 jE Y (P2 Y Y (ad (k+1) Y (BZ [1] 0 Y (li Y (kM S (hu.chg.perm.trans hp) (i:=k) (j:=k+1) Y Y Y Y Y (by omega) (by omega) (by omega) ?_)))))))));refine De (Xb (Xt (Dh (C (swp e k (k+1))::_::Hs) Y (Cr (p1 Y (ad (k+1) Y (Pe Y (λac w' hf hs=>⟨_,?_,k+1,swp e k (k+1),?_,?_,?_,?_,Y,hf.wk Y,hs.fd [0,1] 0 Y⟩))))))))
      ·omega
      ·omega
      ·omega
      ·exact xX hu (by omega) (by omega) (by omega)
      ·exact A2R (i:=i) hu (by have hji:j=i:=(by omega);rw[hji] at hl;exact hl) (by omega) (by omega) (by omega) (by omega) (by omega) hsb
     ·refine Cx (Xx (Xx (Xe (Xt (Ct (Xr (R_0 Y λw' hs=>⟨Y,e,?_,hs.fd [] 1 Y⟩)))))));have hki:k=i-1:=(by omega);have hji:j=i:=(by omega);subst hki;subst hji;exact⟨hu.chg,A2N q hu (by omega) (by omega) (by omega) hl h,hsb⟩
 ·have bq:=JH y;refine Sk (Cq (Sr (P2 Y Y (q1 Y (B3 Y Y Y (r:=((b-m:Nat):Int)) (by omega) (by omega)) (Pe Y (Ce Y (λbu=>?_) (λbu=>?_)))))))
  ·refine Sr (P2 Y Y (Dx (Sr (P2 Y Y (Dx (Cq (Cb (Cl (λm_ ac w'=>∃(i:Nat),∃(j:Nat),(a<=i)/\(i<=j)/\(j<=m)/\(Hgh lt d a m i j)/\m_=j-i/\Fits ac 177 [(2,(nv m)),(4,(pv g1)),(12,(nv i)),(13,(nv j))]/\St w0 (bx g1 [(.func (.func t) #[] v.toArray),(.func (.func u) #[] x.toArray)]::C d::Hs) w') ?_ ?_))))))))
   ·refine λac w' hf hs=>⟨_,a,m,?_,?_,?_,?_,Y,hf.wk Y,hs⟩
    ·omega
    ·omega
    ·omega
    ·exact mS _ _ _
   ·rintro m_ ac w' ⟨i,j,h1,y,h3,hl,rfl,hf,hs⟩;refine D.use ?_ hf hs;clear hf hs ac w';refine Cq (Sr (P3 Y Y Y (Dx (Cd Y (λbv=>?_) (λbv=>?_)))))
    ·refine Sk (Cb (Sr (P2 Y Y (ad (i+j) Y (q1 Y (XX (n:=(i+j)) J5 ⟨_,LO⟩ Y Y (by omega)) (q1 Y (dQ (n:=(i+j)) Y Y Y (by omega)) (q1 Y (dP (n:=((i+j)/2)) LO ⟨_,J5⟩ Y Y (by omega)) (Pe Y (Sr (fl 0 P8 bH Y (P2 Y Y (BZ [1] 0 Y (li Y (dO S hp (i:=m) (j:=(i+j)/2) Y Y Y Y Y (by omega) (by omega) ?_))))))))))))));refine Pe Y (Dh (_::_::Hs) Y (CN Y (λbw=>?_) (λbw=>?_)))
     ·refine Cr (p1 Y (ad ((i+j)/2+1) Y (p1 Y (De (Xb (Xt (λac w' hf hs=>⟨_,?_,(i+j)/2+1,j,?_,?_,?_,?_,Y,hf.wk Y,hs.fd [0,1] 0 Y⟩)))))))
      ·omega
      ·omega
      ·omega
      ·assumption
      ·exact A2O q hl g (by omega) (by omega) (by omega) (by omega) ‹_›
     ·refine Cr (P2 Y Y (De (Xb (Xt (λac w' hf hs=>⟨_,?_,i,(i+j)/2,?_,?_,?_,?_,Y,hf.wk Y,hs.fd [0,1] 0 Y⟩)))))
      ·omega
      ·assumption
      ·omega
      ·omega
      ·exact A2P q hl g (by omega) (by omega) (by omega) ‹_›
    ·refine Cx (Xx (Xx (Xe (Xt (Cq (Sr (P2 Y Y (Dx (Cb (Cl (λm_ ac w'=>∃(k:Nat),∃(e:List α),(i<=k)/\(k<=m)/\(Dwn d e a k m)/\(JA lt d e)/\m_=k+1/\Fits ac 177 [(4,(pv g1)),(12,(nv i)),(15,(nv k))]/\St w0 (bx g1 [(.func (.func t) #[] v.toArray),(.func (.func u) #[] x.toArray)]::C e::Hs) w') ?_ ?_))))))))))
     ·refine λac w' hf hs=>⟨_,m,d,?_,?_,?_,?_,Y,hf.wk Y,hs⟩
      ·omega
      ·omega
      ·exact mT _ _ _
      ·exact NR _
     ·rintro m_ ac w' ⟨k,e,hk,bs,hu,hsb,rfl,hf,hs⟩;refine D.use ?_ hf hs;clear hf hs ac w';refine Cq (Sr (P3 Y Y Y (Dx (Dh (_::_::Hs) Y (Cd Y (λbz=>?_) (λbz=>?_))))))
      ·refine Sk (Cq (Cb (Cr (fl 0 S5 jE Y (P2 Y Y (q1 Y (B3 Y Y Y (r:=((k-1:Nat):Int)) (by omega) (by omega)) (BZ [1] 0 Y (li Y (kM S (hu.chg.perm.trans hp) (i:=k) (j:=k-1) Y Y Y Y Y (by omega) (by omega) (by omega) ?_)))))))));refine De (Xb (Xt (Dh (C (swp e k (k-1))::_::Hs) Y (Cr (p1 Y (q1 Y (B3 Y Y Y (r:=((k-1:Nat):Int)) (by omega) (by omega)) (Pe Y (λac w' hf hs=>⟨_,?_,k-1,swp e k (k-1),?_,?_,?_,?_,Y,hf.wk Y,hs.fd [0,1] 0 Y⟩))))))))
       ·omega
       ·omega
       ·omega
       ·exact sV hu (by omega) (by omega) (by omega)
       ·exact yD (i:=i) hu (by have hji:j=i:=(by omega);rw[hji] at hl;exact hl) (by omega) (by omega) (by omega) hsb
      ·refine Cx (Xx (Xx (Xe (Xt (Ct (Xr (R_0 Y λw' hs=>⟨Y,e,?_,hs.fd [] 1 Y⟩)))))));have hki:k=i:=(by omega);have hji:j=i:=(by omega);have hbm:b=m+1:=(by omega);subst hki;subst hji;subst hbm;exact⟨hu.chg,xY q hu (by omega) (by omega) hl g,hsb⟩
  ·refine Sk (Sr (P2 Y Y (ad (a+b) Y (q1 Y (XX (n:=(a+b)) J5 ⟨_,LO⟩ Y Y (by omega)) (q1 Y (dQ (n:=(a+b)) Y Y Y (by omega)) (q1 Y (dP (n:=((a+b)/2)) LO ⟨_,J5⟩ Y Y (by omega)) ?_))))));obtain⟨mid,hg_mid⟩:∃mid:Nat,(a+b)/2=mid:=⟨_,rfl⟩;refine MS 100 (v':= .int .i64 ((mid:Nat):Int)) Y (by rw[hg_mid]) Y (Pe Y (AH [1,2,3,4,16] Y (Sr (P2 Y Y (ad (mid+m) Y (Pe Y (Sr (P2 Y Y (Dx (Cq (Sr (P3 Y Y Y (Dx (Cd Y (λa1=>?_) (λa1=>?_)))))))))))))))
   ·refine Sr (P2 Y Y (q1 Y (B3 Y Y Y (r:=((mid+m-b:Nat):Int)) (by omega) (by omega)) (Pe Y (Cr (P2 Y Y (Dx (Sr (p1 Y (q1 Y (B3 Y Y Y (r:=((mid+m-1:Nat):Int)) (by omega) (by omega)) (Pe Y (Cq (Cb (Cl (λm_ ac w'=>∃(s:Nat),∃(r:Nat),(max a (mid+m-b)<=s)/\(s<=r)/\(r<=min m mid)/\(Sea lt d (max a (mid+m-b)) (min m mid) (mid+m) s r)/\m_=r-s/\Fits ac 177 [(1,(nv a)),(2,(nv m)),(3,(nv b)),(4,(pv g1)),(16,(nv mid)),(17,(nv (mid+m))),(18,(nv s)),(19,(nv r)),(20,(nv (mid+m-1)))]/\St w0 (bx g1 [(.func (.func t) #[] v.toArray),(.func (.func u) #[] x.toArray)]::C d::Hs) w') ?_ ?_)))))))))))))
    ·refine λac w' hf hs=>⟨_,mid+m-b,mid,?_,?_,?_,?_,Y,hf.wk Y,hs⟩
     ·omega
     ·omega
     ·omega
     ·rw[show max a (mid+m-b)=mid+m-b from by omega,show min m mid=mid from by omega];exact XR _ _ _ _
    ·rintro m_ ac w' ⟨s,r,h1,y,h3,hsea,rfl,hf,hs⟩;refine D.use ?_ hf hs;clear hf hs ac w';refine Cq (Sr (P3 Y Y Y (Dx (Cd Y (λa2=>?_) (λa2=>?_)))))
     ·refine Sk (Cb (Sr (P2 Y Y (ad (s+r) Y (q1 Y (XX (n:=(s+r)) J5 ⟨_,LO⟩ Y Y (by omega)) (q1 Y (dQ (n:=(s+r)) Y Y Y (by omega)) (q1 Y (dP (n:=((s+r)/2)) LO ⟨_,J5⟩ Y Y (by omega)) (Pe Y (Sr (fl 0 P8 bH Y (P2 Y Y (q1 Y (B3 Y Y Y (r:=((mid+m-1-((s+r)/2):Nat):Int)) (by omega) (by omega)) (p1 Y (BZ [1] 0 Y (li Y (dO S hp (i:=mid+m-1-((s+r)/2)) (j:=(s+r)/2) Y Y Y Y Y (by omega) (by omega) ?_))))))))))))))));refine Pe Y (AH [1,2,3,4,16,17,18,19,20,21,131] Y (Dh (_::_::Hs) Y (CN Y (λa3=>?_) (λa3=>?_))))
      ·refine Cr (p1 Y (ad ((s+r)/2+1) Y (p1 Y (De (Xb (Xt (λac w' hf hs=>⟨_,?_,(s+r)/2+1,r,?_,?_,?_,?_,Y,hf.wk Y,hs.fd [0,1] 0 Y⟩)))))))
       ·omega
       ·omega
       ·omega
       ·assumption
       ·exact sW q hsea g h (by omega) (by omega) (by omega) (by omega) (by omega) (by omega) (by omega) (by omega) ‹_›
      ·refine Cr (P2 Y Y (De (Xb (Xt (λac w' hf hs=>⟨_,?_,s,(s+r)/2,?_,?_,?_,?_,Y,hf.wk Y,hs.fd [0,1] 0 Y⟩)))))
       ·omega
       ·assumption
       ·omega
       ·omega
       ·exact sX q hsea g h (by omega) (by omega) (by omega) (by omega) (by omega) (by omega) (by omega) (by omega) ‹_›
     ·refine Cx (Xx (Xx (Xe (Xt (Sr (P2 Y Y (q1 Y (B3 Y Y Y (r:=((mid+m-s:Nat):Int)) (by omega) (by omega)) (Pe Y (Cq (Sr (P3 Y Y Y (p1 Y (EY 141 Y Y (λa4=>?_) (λa4=>?_))))))))))))))
      ·refine P3 Y Y Y (Pe Y (AH [1,2,3,4,16,18,22,145] Y (Cd Y (λa5=>?_) (λa5=>?_))))
       ·refine Cr (q1 Y (C9 0 EM Y Y Y) (P3 Y Y Y (BZ [1] 0 Y (li Y (GK A0c Y Y Y Y (λw' hs=>L1 S q a0 _ w' d hp s m (mid+m-s) (by omega) (by omega) (by omega) hs) λl hro=>?_)))));refine Dx (Dh (C l::_::Hs) Y (Cq (Cq ?_)));have hrot:XQ d l s m (mid+m-s):=by exact hro
        have c:Sea lt d (max a (mid+m-b)) (min m mid) (mid+m) s s:=by rwa [show r=s from by omega] at hsea
        have hcr:sY lt l a mid b:=OA q rfl rfl c g h (by omega) (by omega) (by omega) (by omega) (by omega) (by omega) (by omega) (by omega) (by omega) hrot;have hsbr:JA lt d l:=OC hrot (by omega) (by omega) (by omega) (IR q rfl rfl c g h (by omega) (by omega) (by omega) (by omega) (by omega) (by omega) (by omega) (by omega) (by omega));have hsd:=OB hrot g h (by omega) (by omega) (by omega) (by omega);rw[show s+(mid+m-s-m)=mid from by omega] at hsd;refine Cr (P3 Y Y Y (p1 Y (EY 154 Y Y (λa6=>?_) (λa6=>?_))))
        ·refine P3 Y Y Y (Pe Y (Cd Y (λa7=>?_) (λa7=>?_)))
         ·refine Cr (q1 Y (C9 1 EM Y Y Y) (P3 Y Y Y (li Y (GK FX Y Y Y Y (λw' hs=>ih (mid-a) (by omega) _ w' l (hro.2.1.trans hp) a s mid (by omega) (by omega) (by omega) hsd.1 hsd.2.1 (Nat.le_refl _) hs) λo hA0=>?_))));refine Dx (AH [3,4,16,22] Y (Dh (C o::_::Hs) Y (Cq ?_)));have hA:Chg l o a mid/\FI lt o a mid/\JA lt l o:=by exact hA0
          have hsm:=BL hsd.2.2.1 hA.1 (.inr (Nat.le_refl _));have hsn:=BL hsd.2.2.2 hA.1 (.inr (by omega));refine Cr (P3 Y Y Y (p1 Y (EY 167 Y Y (λa8=>?_) (λa8=>?_))))
          ·refine P3 Y Y Y (Pe Y (Cd Y (λa9=>?_) (λa9=>?_)))
           ·refine Cr (q1 Y (C9 1 EM Y Y Y) (P3 Y Y Y (li Y (GK FX Y Y Y Y (λw' hs=>ih (b-mid) (by omega) _ w' o (hA0.1.perm.trans (hro.2.1.trans hp)) mid (mid+m-s) b (by omega) (by omega) ‹_› hsm hsn (Nat.le_refl _) hs) λp hB0=>?_))));refine De (CY Y λw' hs=>⟨Y,p,?_,hs.fd [0,1] 1 Y⟩);exact A4 hrot (by omega) hcr hsbr hA hB0
           ·refine Ck (CY Y λw' hs=>⟨Y,o,?_,hs.fd [0,1] 1 Y⟩);exact A4 hrot (by omega) hcr hsbr hA (CQ hsm (Nat.le_refl _) (by omega))
          ·refine n1 Y (n1 Y (n1 Y (Pe Y (G7 Y (Ck (CY Y λw' hs=>⟨Y,o,?_,hs.fd [0,1] 1 Y⟩))))));exact A4 hrot (by omega) hcr hsbr hA (CQ hsm (Nat.le_refl _) (by omega))
         ·refine Sk (AH [3,4,16,22] Y (Cq ?_));have hA:Chg l l a mid/\FI lt l a mid/\JA lt l l:=by exact CQ hsd.1 (Nat.le_refl _) (by omega)
          have hsm:=BL hsd.2.2.1 hA.1 (.inr (Nat.le_refl _));have hsn:=BL hsd.2.2.2 hA.1 (.inr (by omega));refine Cr (P3 Y Y Y (p1 Y (EY 167 Y Y (λaa=>?_) (λaa=>?_))))
          ·refine P3 Y Y Y (Pe Y (Cd Y (λab=>?_) (λab=>?_)))
           ·refine Cr (q1 Y (C9 1 EM Y Y Y) (P3 Y Y Y (li Y (GK FX Y Y Y Y (λw' hs=>ih (b-mid) (by omega) _ w' l (hro.2.1.trans hp) mid (mid+m-s) b (by omega) (by omega) ‹_› hsm hsn (Nat.le_refl _) hs) λp hB0=>?_))));refine De (CY Y λw' hs=>⟨Y,p,?_,hs.fd [0,1] 1 Y⟩);exact A4 hrot (by omega) hcr hsbr hA hB0
           ·refine Ck (CY Y λw' hs=>⟨Y,l,?_,hs.fd [0,1] 1 Y⟩);exact A4 hrot (by omega) hcr hsbr hA (CQ hsm (Nat.le_refl _) (by omega))
          ·refine n1 Y (n1 Y (n1 Y (Pe Y (G7 Y (Ck (CY Y λw' hs=>⟨Y,l,?_,hs.fd [0,1] 1 Y⟩))))));exact A4 hrot (by omega) hcr hsbr hA (CQ hsm (Nat.le_refl _) (by omega))
        ·refine n1 Y (n1 Y (n1 Y (Pe Y (G7 Y (Sk (AH [3,4,16,22] Y (Cq ?_)))))));have hA:Chg l l a mid/\FI lt l a mid/\JA lt l l:=by exact CQ hsd.2.1 (by omega) (Nat.le_refl _)
         have hsm:=BL hsd.2.2.1 hA.1 (.inr (Nat.le_refl _));have hsn:=BL hsd.2.2.2 hA.1 (.inr (by omega));refine Cr (P3 Y Y Y (p1 Y (EY 167 Y Y (λae=>?_) (λae=>?_))))
         ·refine P3 Y Y Y (Pe Y (Cd Y (λaf=>?_) (λaf=>?_)))
          ·refine Cr (q1 Y (C9 1 EM Y Y Y) (P3 Y Y Y (li Y (GK FX Y Y Y Y (λw' hs=>ih (b-mid) (by omega) _ w' l (hro.2.1.trans hp) mid (mid+m-s) b (by omega) (by omega) ‹_› hsm hsn (Nat.le_refl _) hs) λp hB0=>?_))));refine De (CY Y λw' hs=>⟨Y,p,?_,hs.fd [0,1] 1 Y⟩);exact A4 hrot (by omega) hcr hsbr hA hB0
          ·refine Ck (CY Y λw' hs=>⟨Y,l,?_,hs.fd [0,1] 1 Y⟩);exact A4 hrot (by omega) hcr hsbr hA (CQ hsm (Nat.le_refl _) (by omega))
         ·refine n1 Y (n1 Y (n1 Y (Pe Y (G7 Y (Ck (CY Y λw' hs=>⟨Y,l,?_,hs.fd [0,1] 1 Y⟩))))));exact A4 hrot (by omega) hcr hsbr hA (CQ hsm (Nat.le_refl _) (by omega))
       ·refine Sk (Cq (Cq ?_));have hrot:XQ d d s m (mid+m-s):=by exact QM (by omega) (by omega) (by omega)
        have c:Sea lt d (max a (mid+m-b)) (min m mid) (mid+m) s s:=by rwa [show r=s from by omega] at hsea
        have hcr:sY lt d a mid b:=OA q rfl rfl c g h (by omega) (by omega) (by omega) (by omega) (by omega) (by omega) (by omega) (by omega) (by omega) hrot;have hsbr:JA lt d d:=OC hrot (by omega) (by omega) (by omega) (IR q rfl rfl c g h (by omega) (by omega) (by omega) (by omega) (by omega) (by omega) (by omega) (by omega) (by omega));have hsd:=OB hrot g h (by omega) (by omega) (by omega) (by omega);rw[show s+(mid+m-s-m)=mid from by omega] at hsd;refine Cr (P3 Y Y Y (p1 Y (EY 154 Y Y (λag=>?_) (λag=>?_))))
        ·refine P3 Y Y Y (Pe Y (Cd Y (λah=>?_) (λah=>?_)))
         ·refine Cr (q1 Y (C9 0 EM Y Y Y) (P3 Y Y Y (BZ [1] 0 Y (li Y (GK FX Y Y Y Y (λw' hs=>ih (mid-a) (by omega) _ w' d hp a s mid (by omega) (by omega) (by omega) hsd.1 hsd.2.1 (Nat.le_refl _) hs) λo hA0=>?_)))));refine Dx (AH [3,4,16,22] Y (Dh (C o::_::Hs) Y (Cq ?_)));have hA:Chg d o a mid/\FI lt o a mid/\JA lt d o:=by exact hA0
          have hsm:=BL hsd.2.2.1 hA.1 (.inr (Nat.le_refl _));have hsn:=BL hsd.2.2.2 hA.1 (.inr (by omega));refine Cr (P3 Y Y Y (p1 Y (EY 167 Y Y (λai=>?_) (λai=>?_))))
          ·refine P3 Y Y Y (Pe Y (Cd Y (λaj=>?_) (λaj=>?_)))
           ·refine Cr (q1 Y (C9 1 EM Y Y Y) (P3 Y Y Y (li Y (GK FX Y Y Y Y (λw' hs=>ih (b-mid) (by omega) _ w' o (hA0.1.perm.trans hp) mid (mid+m-s) b (by omega) (by omega) ‹_› hsm hsn (Nat.le_refl _) hs) λp hB0=>?_))));refine De (CY Y λw' hs=>⟨Y,p,?_,hs.fd [0,1] 1 Y⟩);exact A4 hrot (by omega) hcr hsbr hA hB0
           ·refine Ck (CY Y λw' hs=>⟨Y,o,?_,hs.fd [0,1] 1 Y⟩);exact A4 hrot (by omega) hcr hsbr hA (CQ hsm (Nat.le_refl _) (by omega))
          ·refine n1 Y (n1 Y (n1 Y (Pe Y (G7 Y (Ck (CY Y λw' hs=>⟨Y,o,?_,hs.fd [0,1] 1 Y⟩))))));exact A4 hrot (by omega) hcr hsbr hA (CQ hsm (Nat.le_refl _) (by omega))
         ·refine Sk (Cq ?_);have hA:Chg d d a mid/\FI lt d a mid/\JA lt d d:=by exact CQ hsd.1 (Nat.le_refl _) (by omega)
          have hsm:=BL hsd.2.2.1 hA.1 (.inr (Nat.le_refl _));have hsn:=BL hsd.2.2.2 hA.1 (.inr (by omega));refine Cr (P3 Y Y Y (p1 Y (EY 167 Y Y (λak=>?_) (λak=>?_))))
          ·refine P3 Y Y Y (Pe Y (AH [3,4,16,22,171] Y (Cd Y (λal=>?_) (λal=>?_))))
           ·refine Cr (q1 Y (C9 0 EM Y Y Y) (P3 Y Y Y (BZ [1] 0 Y (li Y (GK FX Y Y Y Y (λw' hs=>ih (b-mid) (by omega) _ w' d hp mid (mid+m-s) b (by omega) (by omega) ‹_› hsm hsn (Nat.le_refl _) hs) λp hB0=>?_)))));refine De (CY Y λw' hs=>⟨Y,p,?_,hs.fd [0,1] 1 Y⟩);exact A4 hrot (by omega) hcr hsbr hA hB0
           ·refine Ck (CY Y λw' hs=>⟨Y,d,?_,hs.fd [] 1 Y⟩);exact A4 hrot (by omega) hcr hsbr hA (CQ hsm (Nat.le_refl _) (by omega))
          ·refine n1 Y (n1 Y (n1 Y (Pe Y (AH [3,4,16,22,171] Y (G7 Y (Ck (CY Y λw' hs=>⟨Y,d,?_,hs.fd [] 1 Y⟩)))))));exact A4 hrot (by omega) hcr hsbr hA (CQ hsm (Nat.le_refl _) (by omega))
        ·refine n1 Y (n1 Y (n1 Y (Pe Y (G7 Y (Sk (Cq ?_))))));have hA:Chg d d a mid/\FI lt d a mid/\JA lt d d:=by exact CQ hsd.1 (Nat.le_refl _) (by omega)
         have hsm:=BL hsd.2.2.1 hA.1 (.inr (Nat.le_refl _));have hsn:=BL hsd.2.2.2 hA.1 (.inr (by omega));refine Cr (P3 Y Y Y (p1 Y (EY 167 Y Y (λam=>?_) (λam=>?_))))
         ·refine P3 Y Y Y (Pe Y (AH [3,4,16,22,171] Y (Cd Y (λan=>?_) (λan=>?_))))
          ·refine Cr (q1 Y (C9 0 EM Y Y Y) (P3 Y Y Y (BZ [1] 0 Y (li Y (GK FX Y Y Y Y (λw' hs=>ih (b-mid) (by omega) _ w' d hp mid (mid+m-s) b (by omega) (by omega) ‹_› hsm hsn (Nat.le_refl _) hs) λp hB0=>?_)))));refine De (CY Y λw' hs=>⟨Y,p,?_,hs.fd [0,1] 1 Y⟩);exact A4 hrot (by omega) hcr hsbr hA hB0
          ·refine Ck (CY Y λw' hs=>⟨Y,d,?_,hs.fd [] 1 Y⟩);exact A4 hrot (by omega) hcr hsbr hA (CQ hsm (Nat.le_refl _) (by omega))
         ·refine n1 Y (n1 Y (n1 Y (Pe Y (AH [3,4,16,22,171] Y (G7 Y (Ck (CY Y λw' hs=>⟨Y,d,?_,hs.fd [] 1 Y⟩)))))));exact A4 hrot (by omega) hcr hsbr hA (CQ hsm (Nat.le_refl _) (by omega))
      ·refine n1 Y (n1 Y (n1 Y (Pe Y (AH [1,2,3,4,16,18,22,145] Y (G7 Y (Sk (Cq (Cq ?_))))))));have hrot:XQ d d s m (mid+m-s):=by exact QM (by omega) (by omega) (by omega)
       have c:Sea lt d (max a (mid+m-b)) (min m mid) (mid+m) s s:=by rwa [show r=s from by omega] at hsea
       have hcr:sY lt d a mid b:=OA q rfl rfl c g h (by omega) (by omega) (by omega) (by omega) (by omega) (by omega) (by omega) (by omega) (by omega) hrot;have hsbr:JA lt d d:=OC hrot (by omega) (by omega) (by omega) (IR q rfl rfl c g h (by omega) (by omega) (by omega) (by omega) (by omega) (by omega) (by omega) (by omega) (by omega));have hsd:=OB hrot g h (by omega) (by omega) (by omega) (by omega);rw[show s+(mid+m-s-m)=mid from by omega] at hsd;refine Cr (P3 Y Y Y (p1 Y (EY 154 Y Y (λao=>?_) (λao=>?_))))
       ·refine P3 Y Y Y (Pe Y (Cd Y (λap=>?_) (λap=>?_)))
        ·refine Cr (q1 Y (C9 0 EM Y Y Y) (P3 Y Y Y (BZ [1] 0 Y (li Y (GK FX Y Y Y Y (λw' hs=>ih (mid-a) (by omega) _ w' d hp a s mid (by omega) (by omega) (by omega) hsd.1 hsd.2.1 (Nat.le_refl _) hs) λo hA0=>?_)))));refine Dx (AH [3,4,16,22] Y (Dh (C o::_::Hs) Y (Cq ?_)));have hA:Chg d o a mid/\FI lt o a mid/\JA lt d o:=by exact hA0
         have hsm:=BL hsd.2.2.1 hA.1 (.inr (Nat.le_refl _));have hsn:=BL hsd.2.2.2 hA.1 (.inr (by omega));refine Cr (P3 Y Y Y (p1 Y (EY 167 Y Y (λaq=>?_) (λaq=>?_))))
         ·refine P3 Y Y Y (Pe Y (Cd Y (λar=>?_) (λar=>?_)))
          ·refine Cr (q1 Y (C9 1 EM Y Y Y) (P3 Y Y Y (li Y (GK FX Y Y Y Y (λw' hs=>ih (b-mid) (by omega) _ w' o (hA0.1.perm.trans hp) mid (mid+m-s) b (by omega) (by omega) ‹_› hsm hsn (Nat.le_refl _) hs) λp hB0=>?_))));refine De (CY Y λw' hs=>⟨Y,p,?_,hs.fd [0,1] 1 Y⟩);exact A4 hrot (by omega) hcr hsbr hA hB0
          ·refine Ck (CY Y λw' hs=>⟨Y,o,?_,hs.fd [0,1] 1 Y⟩);exact A4 hrot (by omega) hcr hsbr hA (CQ hsm (Nat.le_refl _) (by omega))
         ·refine n1 Y (n1 Y (n1 Y (Pe Y (G7 Y (Ck (CY Y λw' hs=>⟨Y,o,?_,hs.fd [0,1] 1 Y⟩))))));exact A4 hrot (by omega) hcr hsbr hA (CQ hsm (Nat.le_refl _) (by omega))
        ·refine Sk (Cq ?_);have hA:Chg d d a mid/\FI lt d a mid/\JA lt d d:=by exact CQ hsd.1 (Nat.le_refl _) (by omega)
         have hsm:=BL hsd.2.2.1 hA.1 (.inr (Nat.le_refl _));have hsn:=BL hsd.2.2.2 hA.1 (.inr (by omega));refine Cr (P3 Y Y Y (p1 Y (EY 167 Y Y (λau=>?_) (λau=>?_))))
         ·refine P3 Y Y Y (Pe Y (AH [3,4,16,22,171] Y (Cd Y (λav=>?_) (λav=>?_))))
          ·refine Cr (q1 Y (C9 0 EM Y Y Y) (P3 Y Y Y (BZ [1] 0 Y (li Y (GK FX Y Y Y Y (λw' hs=>ih (b-mid) (by omega) _ w' d hp mid (mid+m-s) b (by omega) (by omega) ‹_› hsm hsn (Nat.le_refl _) hs) λp hB0=>?_)))));refine De (CY Y λw' hs=>⟨Y,p,?_,hs.fd [0,1] 1 Y⟩);exact A4 hrot (by omega) hcr hsbr hA hB0
          ·refine Ck (CY Y λw' hs=>⟨Y,d,?_,hs.fd [] 1 Y⟩);exact A4 hrot (by omega) hcr hsbr hA (CQ hsm (Nat.le_refl _) (by omega))
         ·refine n1 Y (n1 Y (n1 Y (Pe Y (AH [3,4,16,22,171] Y (G7 Y (Ck (CY Y λw' hs=>⟨Y,d,?_,hs.fd [] 1 Y⟩)))))));exact A4 hrot (by omega) hcr hsbr hA (CQ hsm (Nat.le_refl _) (by omega))
       ·refine n1 Y (n1 Y (n1 Y (Pe Y (G7 Y (Sk (Cq ?_))))));have hA:Chg d d a mid/\FI lt d a mid/\JA lt d d:=by exact CQ hsd.1 (Nat.le_refl _) (by omega)
        have hsm:=BL hsd.2.2.1 hA.1 (.inr (Nat.le_refl _));have hsn:=BL hsd.2.2.2 hA.1 (.inr (by omega));refine Cr (P3 Y Y Y (p1 Y (EY 167 Y Y (λaw=>?_) (λaw=>?_))))
        ·refine P3 Y Y Y (Pe Y (AH [3,4,16,22,171] Y (Cd Y (λax=>?_) (λax=>?_))))
         ·refine Cr (q1 Y (C9 0 EM Y Y Y) (P3 Y Y Y (BZ [1] 0 Y (li Y (GK FX Y Y Y Y (λw' hs=>ih (b-mid) (by omega) _ w' d hp mid (mid+m-s) b (by omega) (by omega) ‹_› hsm hsn (Nat.le_refl _) hs) λp hB0=>?_)))));refine De (CY Y λw' hs=>⟨Y,p,?_,hs.fd [0,1] 1 Y⟩);exact A4 hrot (by omega) hcr hsbr hA hB0
         ·refine Ck (CY Y λw' hs=>⟨Y,d,?_,hs.fd [] 1 Y⟩);exact A4 hrot (by omega) hcr hsbr hA (CQ hsm (Nat.le_refl _) (by omega))
        ·refine n1 Y (n1 Y (n1 Y (Pe Y (AH [3,4,16,22,171] Y (G7 Y (Ck (CY Y λw' hs=>⟨Y,d,?_,hs.fd [] 1 Y⟩)))))));exact A4 hrot (by omega) hcr hsbr hA (CQ hsm (Nat.le_refl _) (by omega))
   ·refine Sr (P2 Y Y (Dx (Cr (P2 Y Y (Dx (Sr (p1 Y (q1 Y (B3 Y Y Y (r:=((mid+m-1:Nat):Int)) (by omega) (by omega)) (Pe Y (Cq (Cb (Cl (λm_ ac w'=>∃(s:Nat),∃(r:Nat),(max a (mid+m-b)<=s)/\(s<=r)/\(r<=min m mid)/\(Sea lt d (max a (mid+m-b)) (min m mid) (mid+m) s r)/\m_=r-s/\Fits ac 177 [(1,(nv a)),(2,(nv m)),(3,(nv b)),(4,(pv g1)),(16,(nv mid)),(17,(nv (mid+m))),(18,(nv s)),(19,(nv r)),(20,(nv (mid+m-1)))]/\St w0 (bx g1 [(.func (.func t) #[] v.toArray),(.func (.func u) #[] x.toArray)]::C d::Hs) w') ?_ ?_))))))))))))
    ·refine λac w' hf hs=>⟨_,a,m,?_,?_,?_,?_,Y,hf.wk Y,hs⟩
     ·omega
     ·omega
     ·omega
     ·rw[show max a (mid+m-b)=a from by omega,show min m mid=m from by omega];exact XR _ _ _ _
    ·rintro m_ ac w' ⟨s,r,h1,y,h3,hsea,rfl,hf,hs⟩;refine D.use ?_ hf hs;clear hf hs ac w';refine Cq (Sr (P3 Y Y Y (Dx (Cd Y (λay=>?_) (λay=>?_)))))
     ·refine Sk (Cb (Sr (P2 Y Y (ad (s+r) Y (q1 Y (XX (n:=(s+r)) J5 ⟨_,LO⟩ Y Y (by omega)) (q1 Y (dQ (n:=(s+r)) Y Y Y (by omega)) (q1 Y (dP (n:=((s+r)/2)) LO ⟨_,J5⟩ Y Y (by omega)) (Pe Y (Sr (fl 0 P8 bH Y (P2 Y Y (q1 Y (B3 Y Y Y (r:=((mid+m-1-((s+r)/2):Nat):Int)) (by omega) (by omega)) (p1 Y (BZ [1] 0 Y (li Y (dO S hp (i:=mid+m-1-((s+r)/2)) (j:=(s+r)/2) Y Y Y Y Y (by omega) (by omega) ?_))))))))))))))));refine Pe Y (AH [1,2,3,4,16,17,18,19,20,21,131] Y (Dh (_::_::Hs) Y (CN Y (λaz=>?_) (λaz=>?_))))
      ·refine Cr (p1 Y (ad ((s+r)/2+1) Y (p1 Y (De (Xb (Xt (λac w' hf hs=>⟨_,?_,(s+r)/2+1,r,?_,?_,?_,?_,Y,hf.wk Y,hs.fd [0,1] 0 Y⟩)))))))
       ·omega
       ·omega
       ·omega
       ·assumption
       ·exact sW q hsea g h (by omega) (by omega) (by omega) (by omega) (by omega) (by omega) (by omega) (by omega) ‹_›
      ·refine Cr (P2 Y Y (De (Xb (Xt (λac w' hf hs=>⟨_,?_,s,(s+r)/2,?_,?_,?_,?_,Y,hf.wk Y,hs.fd [0,1] 0 Y⟩)))))
       ·omega
       ·assumption
       ·omega
       ·omega
       ·exact sX q hsea g h (by omega) (by omega) (by omega) (by omega) (by omega) (by omega) (by omega) (by omega) ‹_›
     ·refine Cx (Xx (Xx (Xe (Xt (Sr (P2 Y Y (q1 Y (B3 Y Y Y (r:=((mid+m-s:Nat):Int)) (by omega) (by omega)) (Pe Y (Cq (Sr (P3 Y Y Y (p1 Y (EY 141 Y Y (λb0=>?_) (λb0=>?_))))))))))))))
      ·refine P3 Y Y Y (Pe Y (AH [1,2,3,4,16,18,22,145] Y (Cd Y (λb1=>?_) (λb1=>?_))))
       ·refine Cr (q1 Y (C9 0 EM Y Y Y) (P3 Y Y Y (BZ [1] 0 Y (li Y (GK A0c Y Y Y Y (λw' hs=>L1 S q a0 _ w' d hp s m (mid+m-s) (by omega) (by omega) (by omega) hs) λl hro=>?_)))));refine Dx (Dh (C l::_::Hs) Y (Cq (Cq ?_)));have hrot:XQ d l s m (mid+m-s):=by exact hro
        have c:Sea lt d (max a (mid+m-b)) (min m mid) (mid+m) s s:=by rwa [show r=s from by omega] at hsea
        have hcr:sY lt l a mid b:=OA q rfl rfl c g h (by omega) (by omega) (by omega) (by omega) (by omega) (by omega) (by omega) (by omega) (by omega) hrot;have hsbr:JA lt d l:=OC hrot (by omega) (by omega) (by omega) (IR q rfl rfl c g h (by omega) (by omega) (by omega) (by omega) (by omega) (by omega) (by omega) (by omega) (by omega));have hsd:=OB hrot g h (by omega) (by omega) (by omega) (by omega);rw[show s+(mid+m-s-m)=mid from by omega] at hsd;refine Cr (P3 Y Y Y (p1 Y (EY 154 Y Y (λb2=>?_) (λb2=>?_))))
        ·refine P3 Y Y Y (Pe Y (Cd Y (λb3=>?_) (λb3=>?_)))
         ·refine Cr (q1 Y (C9 1 EM Y Y Y) (P3 Y Y Y (li Y (GK FX Y Y Y Y (λw' hs=>ih (mid-a) (by omega) _ w' l (hro.2.1.trans hp) a s mid (by omega) (by omega) (by omega) hsd.1 hsd.2.1 (Nat.le_refl _) hs) λo hA0=>?_))));refine Dx (AH [3,4,16,22] Y (Dh (C o::_::Hs) Y (Cq ?_)));have hA:Chg l o a mid/\FI lt o a mid/\JA lt l o:=by exact hA0
          have hsm:=BL hsd.2.2.1 hA.1 (.inr (Nat.le_refl _));have hsn:=BL hsd.2.2.2 hA.1 (.inr (by omega));refine Cr (P3 Y Y Y (p1 Y (EY 167 Y Y (λb4=>?_) (λb4=>?_))))
          ·refine P3 Y Y Y (Pe Y (Cd Y (λb5=>?_) (λb5=>?_)))
           ·refine Cr (q1 Y (C9 1 EM Y Y Y) (P3 Y Y Y (li Y (GK FX Y Y Y Y (λw' hs=>ih (b-mid) (by omega) _ w' o (hA0.1.perm.trans (hro.2.1.trans hp)) mid (mid+m-s) b (by omega) (by omega) ‹_› hsm hsn (Nat.le_refl _) hs) λp hB0=>?_))));refine De (CY Y λw' hs=>⟨Y,p,?_,hs.fd [0,1] 1 Y⟩);exact A4 hrot (by omega) hcr hsbr hA hB0
           ·refine Ck (CY Y λw' hs=>⟨Y,o,?_,hs.fd [0,1] 1 Y⟩);exact A4 hrot (by omega) hcr hsbr hA (CQ hsm (Nat.le_refl _) (by omega))
          ·refine n1 Y (n1 Y (n1 Y (Pe Y (G7 Y (Ck (CY Y λw' hs=>⟨Y,o,?_,hs.fd [0,1] 1 Y⟩))))));exact A4 hrot (by omega) hcr hsbr hA (CQ hsm (Nat.le_refl _) (by omega))
         ·refine Sk (AH [3,4,16,22] Y (Cq ?_));have hA:Chg l l a mid/\FI lt l a mid/\JA lt l l:=by exact CQ hsd.1 (Nat.le_refl _) (by omega)
          have hsm:=BL hsd.2.2.1 hA.1 (.inr (Nat.le_refl _));have hsn:=BL hsd.2.2.2 hA.1 (.inr (by omega));refine Cr (P3 Y Y Y (p1 Y (EY 167 Y Y (λb6=>?_) (λb6=>?_))))
          ·refine P3 Y Y Y (Pe Y (Cd Y (λb7=>?_) (λb7=>?_)))
           ·refine Cr (q1 Y (C9 1 EM Y Y Y) (P3 Y Y Y (li Y (GK FX Y Y Y Y (λw' hs=>ih (b-mid) (by omega) _ w' l (hro.2.1.trans hp) mid (mid+m-s) b (by omega) (by omega) ‹_› hsm hsn (Nat.le_refl _) hs) λp hB0=>?_))));refine De (CY Y λw' hs=>⟨Y,p,?_,hs.fd [0,1] 1 Y⟩);exact A4 hrot (by omega) hcr hsbr hA hB0
           ·refine Ck (CY Y λw' hs=>⟨Y,l,?_,hs.fd [0,1] 1 Y⟩);exact A4 hrot (by omega) hcr hsbr hA (CQ hsm (Nat.le_refl _) (by omega))
          ·refine n1 Y (n1 Y (n1 Y (Pe Y (G7 Y (Ck (CY Y λw' hs=>⟨Y,l,?_,hs.fd [0,1] 1 Y⟩))))));exact A4 hrot (by omega) hcr hsbr hA (CQ hsm (Nat.le_refl _) (by omega))
        ·refine n1 Y (n1 Y (n1 Y (Pe Y (G7 Y (Sk (AH [3,4,16,22] Y (Cq ?_)))))));have hA:Chg l l a mid/\FI lt l a mid/\JA lt l l:=by exact CQ hsd.2.1 (by omega) (Nat.le_refl _)
         have hsm:=BL hsd.2.2.1 hA.1 (.inr (Nat.le_refl _));have hsn:=BL hsd.2.2.2 hA.1 (.inr (by omega));refine Cr (P3 Y Y Y (p1 Y (EY 167 Y Y (λb8=>?_) (λb8=>?_))))
         ·refine P3 Y Y Y (Pe Y (Cd Y (λb9=>?_) (λb9=>?_)))
          ·refine Cr (q1 Y (C9 1 EM Y Y Y) (P3 Y Y Y (li Y (GK FX Y Y Y Y (λw' hs=>ih (b-mid) (by omega) _ w' l (hro.2.1.trans hp) mid (mid+m-s) b (by omega) (by omega) ‹_› hsm hsn (Nat.le_refl _) hs) λp hB0=>?_))));refine De (CY Y λw' hs=>⟨Y,p,?_,hs.fd [0,1] 1 Y⟩);exact A4 hrot (by omega) hcr hsbr hA hB0
          ·refine Ck (CY Y λw' hs=>⟨Y,l,?_,hs.fd [0,1] 1 Y⟩);exact A4 hrot (by omega) hcr hsbr hA (CQ hsm (Nat.le_refl _) (by omega))
         ·refine n1 Y (n1 Y (n1 Y (Pe Y (G7 Y (Ck (CY Y λw' hs=>⟨Y,l,?_,hs.fd [0,1] 1 Y⟩))))));exact A4 hrot (by omega) hcr hsbr hA (CQ hsm (Nat.le_refl _) (by omega))
       ·refine Sk (Cq (Cq ?_));have hrot:XQ d d s m (mid+m-s):=by exact QM (by omega) (by omega) (by omega)
        have c:Sea lt d (max a (mid+m-b)) (min m mid) (mid+m) s s:=by rwa [show r=s from by omega] at hsea
        have hcr:sY lt d a mid b:=OA q rfl rfl c g h (by omega) (by omega) (by omega) (by omega) (by omega) (by omega) (by omega) (by omega) (by omega) hrot;have hsbr:JA lt d d:=OC hrot (by omega) (by omega) (by omega) (IR q rfl rfl c g h (by omega) (by omega) (by omega) (by omega) (by omega) (by omega) (by omega) (by omega) (by omega));have hsd:=OB hrot g h (by omega) (by omega) (by omega) (by omega);rw[show s+(mid+m-s-m)=mid from by omega] at hsd;refine Cr (P3 Y Y Y (p1 Y (EY 154 Y Y (λba=>?_) (λba=>?_))))
        ·refine P3 Y Y Y (Pe Y (Cd Y (λbb=>?_) (λbb=>?_)))
         ·refine Cr (q1 Y (C9 0 EM Y Y Y) (P3 Y Y Y (BZ [1] 0 Y (li Y (GK FX Y Y Y Y (λw' hs=>ih (mid-a) (by omega) _ w' d hp a s mid (by omega) (by omega) (by omega) hsd.1 hsd.2.1 (Nat.le_refl _) hs) λo hA0=>?_)))));refine Dx (AH [3,4,16,22] Y (Dh (C o::_::Hs) Y (Cq ?_)));have hA:Chg d o a mid/\FI lt o a mid/\JA lt d o:=by exact hA0
          have hsm:=BL hsd.2.2.1 hA.1 (.inr (Nat.le_refl _));have hsn:=BL hsd.2.2.2 hA.1 (.inr (by omega));refine Cr (P3 Y Y Y (p1 Y (EY 167 Y Y (λbc=>?_) (λbc=>?_))))
          ·refine P3 Y Y Y (Pe Y (Cd Y (λbd=>?_) (λbd=>?_)))
           ·refine Cr (q1 Y (C9 1 EM Y Y Y) (P3 Y Y Y (li Y (GK FX Y Y Y Y (λw' hs=>ih (b-mid) (by omega) _ w' o (hA0.1.perm.trans hp) mid (mid+m-s) b (by omega) (by omega) ‹_› hsm hsn (Nat.le_refl _) hs) λp hB0=>?_))));refine De (CY Y λw' hs=>⟨Y,p,?_,hs.fd [0,1] 1 Y⟩);exact A4 hrot (by omega) hcr hsbr hA hB0
           ·refine Ck (CY Y λw' hs=>⟨Y,o,?_,hs.fd [0,1] 1 Y⟩);exact A4 hrot (by omega) hcr hsbr hA (CQ hsm (Nat.le_refl _) (by omega))
          ·refine n1 Y (n1 Y (n1 Y (Pe Y (G7 Y (Ck (CY Y λw' hs=>⟨Y,o,?_,hs.fd [0,1] 1 Y⟩))))));exact A4 hrot (by omega) hcr hsbr hA (CQ hsm (Nat.le_refl _) (by omega))
         ·refine Sk (Cq ?_);have hA:Chg d d a mid/\FI lt d a mid/\JA lt d d:=by exact CQ hsd.1 (Nat.le_refl _) (by omega)
          have hsm:=BL hsd.2.2.1 hA.1 (.inr (Nat.le_refl _));have hsn:=BL hsd.2.2.2 hA.1 (.inr (by omega));refine Cr (P3 Y Y Y (p1 Y (EY 167 Y Y (λbe=>?_) (λbe=>?_))))
          ·refine P3 Y Y Y (Pe Y (AH [3,4,16,22,171] Y (Cd Y (λbf=>?_) (λbf=>?_))))
           ·refine Cr (q1 Y (C9 0 EM Y Y Y) (P3 Y Y Y (BZ [1] 0 Y (li Y (GK FX Y Y Y Y (λw' hs=>ih (b-mid) (by omega) _ w' d hp mid (mid+m-s) b (by omega) (by omega) ‹_› hsm hsn (Nat.le_refl _) hs) λp hB0=>?_)))));refine De (CY Y λw' hs=>⟨Y,p,?_,hs.fd [0,1] 1 Y⟩);exact A4 hrot (by omega) hcr hsbr hA hB0
           ·refine Ck (CY Y λw' hs=>⟨Y,d,?_,hs.fd [] 1 Y⟩);exact A4 hrot (by omega) hcr hsbr hA (CQ hsm (Nat.le_refl _) (by omega))
          ·refine n1 Y (n1 Y (n1 Y (Pe Y (AH [3,4,16,22,171] Y (G7 Y (Ck (CY Y λw' hs=>⟨Y,d,?_,hs.fd [] 1 Y⟩)))))));exact A4 hrot (by omega) hcr hsbr hA (CQ hsm (Nat.le_refl _) (by omega))
        ·refine n1 Y (n1 Y (n1 Y (Pe Y (G7 Y (Sk (Cq ?_))))));have hA:Chg d d a mid/\FI lt d a mid/\JA lt d d:=by exact CQ hsd.1 (Nat.le_refl _) (by omega)
         have hsm:=BL hsd.2.2.1 hA.1 (.inr (Nat.le_refl _));have hsn:=BL hsd.2.2.2 hA.1 (.inr (by omega));refine Cr (P3 Y Y Y (p1 Y (EY 167 Y Y (λbg=>?_) (λbg=>?_))))
         ·refine P3 Y Y Y (Pe Y (AH [3,4,16,22,171] Y (Cd Y (λbh=>?_) (λbh=>?_))))
          ·refine Cr (q1 Y (C9 0 EM Y Y Y) (P3 Y Y Y (BZ [1] 0 Y (li Y (GK FX Y Y Y Y (λw' hs=>ih (b-mid) (by omega) _ w' d hp mid (mid+m-s) b (by omega) (by omega) ‹_› hsm hsn (Nat.le_refl _) hs) λp hB0=>?_)))));refine De (CY Y λw' hs=>⟨Y,p,?_,hs.fd [0,1] 1 Y⟩);exact A4 hrot (by omega) hcr hsbr hA hB0
          ·refine Ck (CY Y λw' hs=>⟨Y,d,?_,hs.fd [] 1 Y⟩);exact A4 hrot (by omega) hcr hsbr hA (CQ hsm (Nat.le_refl _) (by omega))
         ·refine n1 Y (n1 Y (n1 Y (Pe Y (AH [3,4,16,22,171] Y (G7 Y (Ck (CY Y λw' hs=>⟨Y,d,?_,hs.fd [] 1 Y⟩)))))));exact A4 hrot (by omega) hcr hsbr hA (CQ hsm (Nat.le_refl _) (by omega))
      ·refine n1 Y (n1 Y (n1 Y (Pe Y (AH [1,2,3,4,16,18,22,145] Y (G7 Y (Sk (Cq (Cq ?_))))))));have hrot:XQ d d s m (mid+m-s):=by exact QM (by omega) (by omega) (by omega)
       have c:Sea lt d (max a (mid+m-b)) (min m mid) (mid+m) s s:=by rwa [show r=s from by omega] at hsea
       have hcr:sY lt d a mid b:=OA q rfl rfl c g h (by omega) (by omega) (by omega) (by omega) (by omega) (by omega) (by omega) (by omega) (by omega) hrot;have hsbr:JA lt d d:=OC hrot (by omega) (by omega) (by omega) (IR q rfl rfl c g h (by omega) (by omega) (by omega) (by omega) (by omega) (by omega) (by omega) (by omega) (by omega));have hsd:=OB hrot g h (by omega) (by omega) (by omega) (by omega);rw[show s+(mid+m-s-m)=mid from by omega] at hsd;refine Cr (P3 Y Y Y (p1 Y (EY 154 Y Y (λbi=>?_) (λbi=>?_))))
       ·refine P3 Y Y Y (Pe Y (Cd Y (λbj=>?_) (λbj=>?_)))
        ·refine Cr (q1 Y (C9 0 EM Y Y Y) (P3 Y Y Y (BZ [1] 0 Y (li Y (GK FX Y Y Y Y (λw' hs=>ih (mid-a) (by omega) _ w' d hp a s mid (by omega) (by omega) (by omega) hsd.1 hsd.2.1 (Nat.le_refl _) hs) λo hA0=>?_)))));refine Dx (AH [3,4,16,22] Y (Dh (C o::_::Hs) Y (Cq ?_)));have hA:Chg d o a mid/\FI lt o a mid/\JA lt d o:=by exact hA0
         have hsm:=BL hsd.2.2.1 hA.1 (.inr (Nat.le_refl _));have hsn:=BL hsd.2.2.2 hA.1 (.inr (by omega));refine Cr (P3 Y Y Y (p1 Y (EY 167 Y Y (λbk=>?_) (λbk=>?_))))
         ·refine P3 Y Y Y (Pe Y (Cd Y (λbl=>?_) (λbl=>?_)))
          ·refine Cr (q1 Y (C9 1 EM Y Y Y) (P3 Y Y Y (li Y (GK FX Y Y Y Y (λw' hs=>ih (b-mid) (by omega) _ w' o (hA0.1.perm.trans hp) mid (mid+m-s) b (by omega) (by omega) ‹_› hsm hsn (Nat.le_refl _) hs) λp hB0=>?_))));refine De (CY Y λw' hs=>⟨Y,p,?_,hs.fd [0,1] 1 Y⟩);exact A4 hrot (by omega) hcr hsbr hA hB0
          ·refine Ck (CY Y λw' hs=>⟨Y,o,?_,hs.fd [0,1] 1 Y⟩);exact A4 hrot (by omega) hcr hsbr hA (CQ hsm (Nat.le_refl _) (by omega))
         ·refine n1 Y (n1 Y (n1 Y (Pe Y (G7 Y (Ck (CY Y λw' hs=>⟨Y,o,?_,hs.fd [0,1] 1 Y⟩))))));exact A4 hrot (by omega) hcr hsbr hA (CQ hsn (by omega) (Nat.le_refl _))
        ·refine Sk (Cq ?_);have hA:Chg d d a mid/\FI lt d a mid/\JA lt d d:=by exact CQ hsd.1 (Nat.le_refl _) (by omega)
         have hsm:=BL hsd.2.2.1 hA.1 (.inr (Nat.le_refl _));have hsn:=BL hsd.2.2.2 hA.1 (.inr (by omega));refine Cr (P3 Y Y Y (p1 Y (EY 167 Y Y (λbm=>?_) (λbm=>?_))))
         ·refine P3 Y Y Y (Pe Y (AH [3,4,16,22,171] Y (Cd Y (λbn=>?_) (λbn=>?_))))
          ·refine Cr (q1 Y (C9 0 EM Y Y Y) (P3 Y Y Y (BZ [1] 0 Y (li Y (GK FX Y Y Y Y (λw' hs=>ih (b-mid) (by omega) _ w' d hp mid (mid+m-s) b (by omega) (by omega) ‹_› hsm hsn (Nat.le_refl _) hs) λp hB0=>?_)))));refine De (CY Y λw' hs=>⟨Y,p,?_,hs.fd [0,1] 1 Y⟩);exact A4 hrot (by omega) hcr hsbr hA hB0
          ·refine Ck (CY Y λw' hs=>⟨Y,d,?_,hs.fd [] 1 Y⟩);exact A4 hrot (by omega) hcr hsbr hA (CQ hsm (Nat.le_refl _) (by omega))
         ·refine n1 Y (n1 Y (n1 Y (Pe Y (AH [3,4,16,22,171] Y (G7 Y (Ck (CY Y λw' hs=>⟨Y,d,?_,hs.fd [] 1 Y⟩)))))));exact A4 hrot (by omega) hcr hsbr hA (CQ hsn (by omega) (Nat.le_refl _))
       ·refine n1 Y (n1 Y (n1 Y (Pe Y (G7 Y (Sk (Cq ?_))))));have hA:Chg d d a mid/\FI lt d a mid/\JA lt d d:=by exact CQ hsd.1 (Nat.le_refl _) (by omega)
        have hsm:=BL hsd.2.2.1 hA.1 (.inr (Nat.le_refl _));have hsn:=BL hsd.2.2.2 hA.1 (.inr (by omega));refine Cr (P3 Y Y Y (p1 Y (EY 167 Y Y (λbo=>?_) (λbo=>?_))))
        ·refine P3 Y Y Y (Pe Y (AH [3,4,16,22,171] Y (Cd Y (λbp=>?_) (λbp=>?_))))
         ·refine Cr (q1 Y (C9 0 EM Y Y Y) (P3 Y Y Y (BZ [1] 0 Y (li Y (GK FX Y Y Y Y (λw' hs=>ih (b-mid) (by omega) _ w' d hp mid (mid+m-s) b (by omega) (by omega) ‹_› hsm hsn (Nat.le_refl _) hs) λp hB0=>?_)))));refine De (CY Y λw' hs=>⟨Y,p,?_,hs.fd [0,1] 1 Y⟩);exact A4 hrot (by omega) hcr hsbr hA hB0
         ·refine Ck (CY Y λw' hs=>⟨Y,d,?_,hs.fd [] 1 Y⟩);exact A4 hrot (by omega) hcr hsbr hA (CQ hsm (Nat.le_refl _) (by omega))
        ·refine n1 Y (n1 Y (n1 Y (Pe Y (AH [3,4,16,22,171] Y (G7 Y (Ck (CY Y λw' hs=>⟨Y,d,?_,hs.fd [] 1 Y⟩)))))));exact A4 hrot (by omega) hcr hsbr hA (CQ hsm (Nat.le_refl _) (by omega))
theorem RZ{α:Type} [Inhabited α]{C:List α->Chunk}{lt:α->α->Bool}{t:List α}{p q:Nat}{r s:List Value}{w0:World}(S:Srt Tryz.prog C lt t p r q s w0)(v:Ordr lt)(j:t.length<=2305843009213693951)(h:List Chunk)(w:World)(d:List α)(hp:List.Perm d t)(n:Nat)(hn:n=t.length)(x:St w0 (C d::h) w):Cy 230 [(.agg #[(.func (.func p) #[] r.toArray),(.func (.func q) #[] s.toArray)]),(nv n)] w (λe_ w'=>e_= .returned (.tuple #[])/\∃e,(List.Perm e d/\FI lt e 0 n/\JA lt d e)/\St w0 (C e::h) w'):=by
 have hdl:d.length=t.length:=hp.length_eq;refine CX 57 Tryz.func230 Y Y Y x (Sr (bX Y λg1=>?_));refine Dx (Dh (bx g1 [(.func (.func p) #[] r.toArray),(.func (.func q) #[] s.toArray)]::C d::h) Y (Sr (Pe Y (Sr (P3 Y Y Y (Dx (Cq (Cb (Cl (λm_ ac w'=>∃(a:Nat),∃(b:Nat),∃(e:List α),(b=a+20)/\(a<=n)/\(∃y,a=y*20)/\(List.Perm e d)/\(Bld lt e 20 a)/\(JA lt d e)/\m_=n-a/\Fits ac 57 [(1,(nv n)),(2,(pv g1)),(4,(iv 20)),(5,(nv a)),(6,(nv b))]/\St w0 (bx g1 [(.func (.func p) #[] r.toArray),(.func (.func q) #[] s.toArray)]::C e::h) w') ?_ ?_)))))))))
 ·refine λac w' hf hs=>⟨_,0,20,d,?_,?_,?_,?_,?_,?_,Y,hf.wk Y,hs⟩
  ·omega
  ·omega
  ·exact⟨0,rfl⟩
  ·exact List.Perm.refl _
  ·exact dG _ (by omega)
  ·exact NR _
 ·rintro m_ ac w' ⟨a,b,e,hb,han,hq,hpe,hB,hsb,rfl,hf,hs⟩;refine D.use ?_ hf hs;clear hf hs ac w';refine Cq (Sr (P3 Y Y Y (Dx (Dh (_::_::h) Y (Cd Y (λz=>?_) (λz=>?_))))))
  ·refine Sk (Cb (Sr (q1 Y (C9 0 EM Y Y Y) (P2 Y Y (BZ [1] 0 Y (li Y (GK A0d Y Y Y Y (λw' hs=>HZ S v j _ w' e (hpe.trans hp) a b (by omega) (by omega) hs) λe2 g=>?_)))))));refine Dx (Dh (C e2::_::h) Y (Sr (P2 Y Y (Dx (Cr (P2 Y Y (ad (b+20) Y (p1 Y (De (Xb (Xt (λac w' hf hs=>⟨_,?_,b,b+20,e2,?_,?_,?_,?_,?_,?_,Y,hf.wk Y,hs.fd [0,1] 0 Y⟩))))))))))))
   ·omega
   ·omega
   ·omega
   ·exact(QN hB hq (by omega) hb g.1 g.2.1).2
   ·exact g.1.perm.trans hpe
   ·exact(QN hB hq (by omega) hb g.1 g.2.1).1
   ·exact G5 hsb g.2.2
  ·refine Cx (Xx (Xx (Xe (Xt (Sr (q1 Y (C9 0 EM Y Y Y) (P2 Y Y (BZ [1] 0 Y (li Y (GK A0d Y Y Y Y (λw' hs=>HZ S v j _ w' e (hpe.trans hp) a n ‹_› (by omega) hs) λe3 k=>?_))))))))));refine Dx (Dh (C e3::_::h) Y (Cb (Cl (λm_ ac w'=>∃(bs:Nat),∃(e:List α),(20<=bs)/\(bs<=2*n+20)/\(List.Perm e d)/\(yA lt e bs n 0)/\(JA lt d e)/\m_=n-bs/\Fits ac 57 [(1,(nv n)),(2,(pv g1)),(4,(nv bs))]/\St w0 (C e::bx g1 [(.func (.func p) #[] r.toArray),(.func (.func q) #[] s.toArray)]::h) w') ?_ ?_)))
   ·refine λac w' hf hs=>⟨_,20,e3,?_,?_,?_,?_,?_,Y,hf.wk Y,hs⟩
    ·omega
    ·omega
    ·exact k.1.perm.trans hpe
    ·exact ZS (dH hB k.1) hq k.2.1 (by omega)
    ·exact G5 hsb k.2.2
   ·rintro m_ ac w' ⟨bs,e,hbs,hbx,hpe,hK,o,rfl,hf,hs⟩;refine D.use ?_ hf hs;clear hf hs ac w';refine Cq (Sr (P3 Y Y Y (Dx (Dh (_::_::h) Y (Cd Y (λa0=>?_) (λa0=>?_))))))
    ·refine Sk (Cb (Sr (p1 Y (q1 Y (ZW (m:=2) (n:=bs) Y Y Y (by omega)) (P2 Y Y (Dx (Cq (Cb (Cl (λm_ ac w'=>∃(a:Nat),∃(b:Nat),∃(e:List α),(b=a+2*bs)/\(a<=n)/\(∃y,a=y*(2*bs))/\(List.Perm e d)/\(Bld lt e (2*bs) a)/\(yA lt e bs n a)/\(JA lt d e)/\m_=n-a/\Fits ac 57 [(1,(nv n)),(2,(pv g1)),(4,(nv bs)),(5,(nv a)),(6,(nv b))]/\St w0 (C e::bx g1 [(.func (.func p) #[] r.toArray),(.func (.func q) #[] s.toArray)]::h) w') ?_ ?_)))))))))
     ·refine λac w' hf hs=>⟨_,0,2*bs,e,?_,?_,?_,?_,?_,?_,?_,Y,hf.wk Y,hs⟩
      ·omega
      ·omega
      ·exact⟨0,by omega⟩
      ·exact hpe
      ·exact dG _ (by omega)
      ·exact hK
      ·exact o
     ·rintro m_ ac w' ⟨a,b,e,hb,han,hq,c,hB2,hK2,i,rfl,hf,hs⟩;refine D.use ?_ hf hs;clear hf hs ac w';refine Cq (Sr (P3 Y Y Y (Dx (Cd Y (λa1=>?_) (λa1=>?_)))))
      ·refine Sk (Cb (Sr (q1 Y (C9 1 EM Y Y Y) (P3 Y Y Y (ad (a+bs) Y (p1 Y (li Y (GK FX Y Y Y Y (λw' hs=>KP S v j (b-a) _ w' e (c.trans hp) a (a+bs) b (by omega) (by omega) (by omega) (ZT (QO hK2 hq).1 (by omega)) (by have a2:=(QO hK2 hq).2;rw[show b=a+bs+bs from by omega];exact ZT a2 (by omega)) (Nat.le_refl _) hs) λe4 f=>?_))))))));refine Dx (Dh (C e4::_::h) Y (Sr (P2 Y Y (Dx (Cr (P2 Y Y (q1 Y (ZW (m:=2) (n:=bs) Y Y Y (by omega)) (ad (b+2*bs) Y (p1 Y (De (Xb (Xt (λac w' hf hs=>⟨_,?_,b,b+2*bs,e4,?_,?_,?_,?_,?_,?_,?_,Y,hf.wk Y,hs⟩)))))))))))))
       ·omega
       ·omega
       ·omega
       ·exact(QN hB2 hq (by omega) hb f.1 f.2.1).2
       ·exact f.1.perm.trans c
       ·exact(QN hB2 hq (by omega) hb f.1 f.2.1).1
       ·exact yB hK2 f.1 (by omega)
       ·exact G5 i f.2.2
      ·refine Cx (Xx (Xx (Xe (Xt (Cq (Sr (P2 Y Y (ad (a+bs) Y (Pe Y (Sr (P3 Y Y Y (Dx (Cd Y (λa3=>?_) (λa3=>?_))))))))))))))
       ·refine Cr (q1 Y (C9 1 EM Y Y Y) (P3 Y Y Y (li Y (GK FX Y Y Y Y (λw' hs=>KP S v j (n-a) _ w' e (c.trans hp) a (a+bs) n (by omega) (by omega) (by omega) (ZT (QO hK2 hq).1 (by omega)) (dI (QO hK2 hq).2 (by omega)) (Nat.le_refl _) hs) λu l=>?_))));refine Dx (AH [1,2,4] Y (Dh (C u::_::h) Y ?_));have hfb:JA lt d u:=by exact G5 i l.2.2
        have hfin:List.Perm u d/\yA lt u (bs*2) n 0:=by rw[Nat.mul_comm bs 2];exact⟨l.1.perm.trans c,ZS (dH hB2 l.1) hq l.2.1 (by omega)⟩
        refine Cr (p1 Y (q1 Y (ZW (m:=bs) (n:=2) Y Y Y (by omega)) (p1 Y (De (Xb (Xt (λac w' hf hs=>⟨_,?_,bs*2,u,?_,?_,?_,?_,?_,Y,hf.wk Y,hs⟩)))))))
        ·omega
        ·omega
        ·omega
        ·exact hfin.1
        ·exact hfin.2
        ·exact hfb
       ·refine Sk ?_;have hfb:JA lt d e:=by exact i
        have hfin:List.Perm e d/\yA lt e (bs*2) n 0:=by rw[Nat.mul_comm bs 2];exact⟨c,ZS hB2 hq (dI (QO hK2 hq).1 (by omega)) (by omega)⟩
        refine Cr (p1 Y (q1 Y (ZW (m:=bs) (n:=2) Y Y Y (by omega)) (p1 Y (De (Xb (Xt (λac w' hf hs=>⟨_,?_,bs*2,e,?_,?_,?_,?_,?_,Y,hf.wk Y,hs⟩)))))))
        ·omega
        ·omega
        ·omega
        ·exact hfin.1
        ·exact hfin.2
        ·exact hfb
    ·refine Cx (Xx (Xx (Xe (CY Y λw' hs=>⟨Y,e,?_,hs.fd [0,1] 1 Y⟩))));exact⟨hpe,yC hK (by omega),o⟩
set_option maxHeartbeats 2000000 in
theorem R0{α:Type} [Inhabited α]{C:List α->Chunk}{lt:α->α->Bool}{a:List α}{f g:Nat}{h j:List Value}{w0:World}(S:Srt Tryz.prog C lt a f h g j w0)(v:Ordr lt)(k:a.length<=2305843009213693951)(l:List Chunk)(w:World)(d:List α)(hp:List.Perm d a){t m n c:Nat}{i:TypeInfo}{p:Option Addr}(u:Tryz.prog.info? t=some i)(b:i.desc= .slice m)(o:Tryz.prog.packed t=false)(y:n=a.length)(q:∀w,(Extern.ReflectliteSwapper.swapper "internal/reflectlite" (Extern.ReflectliteValue.valueError "Swapper") #[.iface t (.slice p n c)]).run Tryz.prog w= .ok (.func (.func g) #[] j.toArray) w)(r:St w0 (C d::l) w):Cy 169 [(.iface t (.slice p n c)),(.func (.func f) #[] h.toArray)] w (λm w'=>m= .returned (.tuple #[])/\∃e,(List.Perm e d/\FI lt e 0 n/\JA lt d e)/\St w0 (C e::l) w'):=by
 have hdl:d.length=a.length:=hp.length_eq;refine CX 16 Tryz.func169 Y Y Y r (Sr (p1 Y (li Y (A5i Tryz.func228 (by kernel_rfl) (by kernel_rfl) (by kernel_rfl) (by kernel_rfl) u b Y Y Y Y λg1=>?_))));refine aL A4k Y λg2=>?_
 refine li Y (AZ (vs:=[(typeHandle Tryz.prog t),(pv g1),(.int .u64 151)]) (cs':=[(typeHandle Tryz.prog t),(pv g1),(.int .u64 151)]) 0 A4l Y Y Y Y Y Y (AB Y (AB Y (AB Y BR))) (by simp) Y ?_);refine Dx (Dh (bx g2 [(typeHandle Tryz.prog t),(pv g1),(.int .u64 151)]::bx g1 [(.slice p n c)]::C d::l) Y (Sr (p1 Y (q1 Y (A5j Tryz.func229 (by kernel_rfl) (by kernel_rfl) (by kernel_rfl) (by kernel_rfl) q Y Y) (Pe Y (Cr (P2 Y Y (q1 Y (FY (vs:=[(0,(.func (.func f) #[] h.toArray)),(1,(.func (.func g) #[] j.toArray))]) (cs:=[(.func (.func f) #[] h.toArray),(.func (.func g) #[] j.toArray)]) Y (λ_=>by kernel_rfl) Y) (q1 Y (C9 0 A4m Y Y Y) (q1 Y (A5k 1 Tryz.func231 (by kernel_rfl) (by kernel_rfl) (by kernel_rfl) (by kernel_rfl) u b o Y Y Y) (BZ [2] 0 Y (li Y (GK A4n Y Y Y Y (λw' hs=>RZ S v k _ w' d hp n ‹_› hs) λx s=>?_)))))))))))));refine De (CY Y λw' hs=>⟨Y,x,?_,hs.fd [0,2,2] 2 Y⟩);exact s
end Go.Sy.Sorts
