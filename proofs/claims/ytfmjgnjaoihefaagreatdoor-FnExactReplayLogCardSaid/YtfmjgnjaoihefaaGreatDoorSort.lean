/-
  Rows that are sorted by exchanges: what the parts of a stable sort leave, as plain facts on lists.
  Conditions: those that each theorem states.
-/
import Derived.Test.YtfmjgnjaoihefaaGreatDoorSym
import Derived.Test.YtfmjgnjaoihefaaGreatDoorBase
import Derived.Test.YtfmjgnjaoihefaaGreatDoorOwn2
import Derived.Lib.ReflectliteSwap
import Derived.Laws.Externs
namespace Go.Sy
section
variable {α:Type} [Inhabited α]
def A(d:List α)(i:Nat):α:=(d[i]?).getD default
def swp(d:List α)(i j:Nat):List α:=(d.set i (A d j)).set j (A d i)
theorem I2(d:List α)(i j:Nat):(swp d i j).length=d.length:=by simp[swp]
theorem KI{d:List α}{i:Nat}{x:α}(h:d[i]?=some x):A d i=x:=by simp[A,h]
theorem OY{d:List α}{i:Nat}(h:i<d.length):d[i]?=some (A d i):=by simp[A,h]
theorem A0w{d:List α}{i k:Nat}{x:α}(h:i<d.length):A (d.set i x) k=if k=i then x else A d k:=by
 unfold A;rw[List.getElem?_set]
 by_cases e:i=k
 ·subst e;simp[h]
 ·rw[if_neg e,if_neg (λh=>e h.symm)]
theorem IH{d:List α}{i j k:Nat}(a:i<d.length)(b:j<d.length):A (swp d i j) k=if k=j then A d i else if k=i then A d j else A d k:=by
 unfold swp;rw[A0w (by simpa using b)]
 split
 ·rfl
 ·rw[A0w a]
theorem A0x{d e:List α}(hl:d.length=e.length)(h:∀i,i<d.length->A d i=A e i):d=e:=by
 refine List.ext_getElem? (λi=>?_)
 rcases Nat.lt_or_ge i d.length with hi|hi
 ·rw[OY hi,OY (by omega),h i hi]
 ·rw[List.getElem?_eq_none hi,List.getElem?_eq_none (by omega)]
theorem OZ{β:Type}{x y:β}:∀{l:List β} {j:Nat},l[j]?=some y->List.Perm (y::l.set j x) (x::l)
 | [],_,h=>by simp at h
 | z::l,0,h=>by
  simp only[List.getElem?_cons_zero,Option.some.injEq] at h;subst h;exact List.Perm.swap _ _ _
 | z::l,j+1,h=>by
  simp only[List.getElem?_cons_succ] at h;have ih:=OZ (x:=x) h;simp only[List.set_cons_succ];exact(List.Perm.swap z y _).trans ((ih.cons z).trans (List.Perm.swap x z _))
theorem NQ:∀{d:List α} {i j:Nat},i<j->j<d.length->List.Perm (swp d i j) d
 | [],_,_,_,h=>by simp at h
 | z::d,0,j+1,_,h=>by
  have hj:j<d.length:=by simpa using h
  unfold swp;have a:A (z::d) (j+1)=A d j:=by simp[A]
  have b:A (z::d) 0=z:=by simp[A]
  rw[a,b];simp only[List.set_cons_zero,List.set_cons_succ];exact OZ (OY hj)
 | z::d,i+1,j+1,hij,h=>by
  have ih:=NQ (d:=d) (i:=i) (j:=j) (by omega) (by simpa using h);unfold swp at ih⊢;have a:A (z::d) (j+1)=A d j:=by simp[A]
  have b:A (z::d) (i+1)=A d i:=by simp[A]
  rw[a,b];simp only[List.set_cons_succ];exact ih.cons z
theorem dC{d:List α}{i j:Nat}(a:i<d.length)(b:j<d.length):swp d i j=swp d j i:=by
 refine A0x (by simp[I2]) (λk _=>?_);rw[IH a b,IH b a]
 by_cases h1:k=j<;>by_cases c:k=i<;>simp[h1,c]<;>(try subst h1)<;>(try simp_all)
theorem UT{d:List α}{i j:Nat}(a:i<d.length)(b:j<d.length):List.Perm (swp d i j) d:=by
 rcases Nat.lt_trichotomy i j with h|h|h
 ·exact NQ h b
 ·subst h;have:swp d i i=d:=A0x (I2 _ _ _) (λk _=>by rw[IH a a];split<;>simp_all);rw[this]
 ·rw[dC a b];exact NQ h a
structure Ordr (lt:α->α->Bool):Prop where
  asym:∀x y,lt x y=true->lt y x=false
  trans:∀x y z,lt y x=false->lt z y=false->lt z x=false
variable {lt:α->α->Bool}
theorem Ordr.lt_le{β:Type}{lt:β->β->Bool}(h:Ordr lt){x y z:β}(h1:lt y x=false)(a:lt y z=true):lt x z=true:=by
 cases e:lt x z with
 |true=>rfl
 | false=>
  have:=h.trans z x y e h1;rw[a] at this;cases this
theorem Ordr.refl{β:Type}{lt:β->β->Bool}(h:Ordr lt)(x:β):lt x x=false:=by
 cases e:lt x x with
 |false=>rfl
 |true=>have:=h.asym x x e;rw[e] at this;exact this
def FI(lt:α->α->Bool)(d:List α)(a b:Nat):Prop:=∀i j,a<=i->i<j->j<b->lt (A d j) (A d i)=false
structure Chg (d e:List α) (a b:Nat):Prop where
  len:e.length=d.length
  perm:List.Perm e d
  out:∀i,(i<a\/b<=i)->A e i=A d i
  mem:∀i,a<=i->i<b->∃j,a<=j/\j<b/\A e i=A d j
theorem Chg.refl(d:List α)(a b:Nat):Chg d d a b:=⟨rfl,List.Perm.refl _,λ_ _=>rfl,λi h1 c=>⟨i,h1,c,rfl⟩⟩
theorem Chg.trans{d e f:List α}{a b:Nat}(h:Chg d e a b)(k:Chg e f a b):Chg d f a b:=
 ⟨k.len.trans h.len,k.perm.trans h.perm,λi hi=>(k.out i hi).trans (h.out i hi),λi h1 c=>by
  obtain⟨j,g,l,n⟩:=k.mem i h1 c;obtain⟨m,p,q,r⟩:=h.mem j g l;exact⟨m,p,q,n.trans r⟩⟩
theorem Chg.mono{d e:List α}{a b c f:Nat}(h:Chg d e a b)(l:c<=a)(hb:b<=f):Chg d e c f:=
 ⟨h.len,h.perm,λi hi=>h.out i (by omega),λi h1 g=>by
  by_cases hc:a<=i/\i<b
  ·obtain⟨j,m,n,k⟩:=h.mem i hc.1 hc.2;exact⟨j,by omega,by omega,k⟩
  ·exact⟨i,h1,g,h.out i (by omega)⟩⟩
theorem Chg.swp{d:List α}{i j a b:Nat}(e:a<=i/\i<b)(f:a<=j/\j<b)(hb:b<=d.length):Chg d (swp d i j) a b:=by
 have h1:i<d.length:=by omega
 have c:j<d.length:=by omega
 refine⟨I2 _ _ _,UT h1 c,λk hk=>?_,λk g h=>?_⟩
 ·rw[IH h1 c,if_neg (by omega),if_neg (by omega)]
 ·rw[IH h1 c]
  split
  ·exact⟨i,e.1,e.2,rfl⟩
  ·split
   ·exact⟨j,f.1,f.2,rfl⟩
   ·exact⟨k,g,h,rfl⟩
def gN(lt:α->α->Bool)(d:List α)(a i j:Nat):Prop:=∀p q,a<=p->p<q->q<=i->q≠j->lt (A d q) (A d p)=false
theorem XP{d:List α}{a i:Nat}(h:FI lt d a i):gN lt d a i i:=λp q h1 b c e=>h p q h1 b (by omega)
theorem dD(f:Ordr lt){d:List α}{a i j:Nat}(h:gN lt d a i j)(l:a<j)(m:j<=i)(hl:i<d.length)(c:lt (A d j) (A d (j-1))=true):gN lt (swp d j (j-1)) a i (j-1):=by
 intro p q h1 g e k;rw[IH (by omega) (by omega),IH (by omega) (by omega),if_neg k]
 by_cases hq:q=j
 ·subst hq;rw[if_pos rfl]
  by_cases hp:p=q-1
  ·rw[if_pos hp];exact f.asym _ _ c
  ·rw[if_neg hp,if_neg (by omega)];exact h p (q-1) h1 (by omega) (by omega) (by omega)
 ·rw[if_neg hq]
  by_cases hp:p=j-1
  ·rw[if_pos hp];exact h j q (by omega) (by omega) e hq
  ·rw[if_neg hp]
   by_cases b:p=j
   ·rw[if_pos b];exact h (j-1) q (by omega) (by omega) e hq
   ·rw[if_neg b];exact h p q h1 g e hq
theorem dE{d:List α}{a i j:Nat}(h:gN lt d a i j)(c:j<=a):FI lt d a (i+1):=λp q h1 b e=>h p q h1 b (by omega) (by omega)
theorem dF(c:Ordr lt){d:List α}{a i j:Nat}(h:gN lt d a i j)(f:a<j)(g:j<=i)(b:lt (A d j) (A d (j-1))=false):FI lt d a (i+1):=by
 intro p q h1 e k
 by_cases hq:q=j
 ·subst hq
  by_cases hp:p=q-1
  ·rw[hp];exact b
  ·exact c.trans _ _ _ (h p (q-1) h1 (by omega) (by omega) (by omega)) b
 ·exact h p q h1 e (by omega) hq
theorem kE(d:List α)(a:Nat):FI lt d a (a+1):=λp q h1 b c=>by omega
theorem I3{d:List α}{a b c e:Nat}(h:FI lt d a b)(g:a<=c)(hb:e<=b):FI lt d c e:=λp q h1 f i=>h p q (by omega) f (by omega)
theorem gO{d e:List α}{a b:Nat}(h:FI lt d a b)(c:∀i,a<=i->i<b->A e i=A d i):FI lt e a b:=λp q h1 g f=>by
 rw[c p h1 (by omega),c q (by omega) f];exact h p q h1 g f
theorem BL{d e:List α}{a b c f:Nat}(h:FI lt d c f)(hc:Chg d e a b)(hd:f<=a\/b<=c):FI lt e c f:=gO h (λi h1 g=>hc.out i (by omega))
def SwR(d e:List α)(a b n:Nat):Prop:=e.length=d.length/\List.Perm e d/\∀p,A e p=if a<=p/\p<a+n then A d (p+(b-a)) else if b<=p/\p<b+n then A d (p-(b-a)) else A d p
theorem sS(d:List α)(a b:Nat):SwR d d a b 0:=⟨rfl,List.Perm.refl _,λp=>by rw[if_neg (by omega),if_neg (by omega)]⟩
theorem sT{d e:List α}{a b n i:Nat}(h:SwR d e a b i)(l:i<n)(j:a+n<=b)(hb:b+n<=d.length):SwR d (swp e (a+i) (b+i)) a b (i+1):=by
 obtain⟨h1,k,c⟩:=h;refine⟨by rw[I2,h1],(UT (by omega) (by omega)).trans k,λp=>?_⟩;rw[IH (by omega) (by omega)]
 by_cases f:p=b+i
 ·subst f;rw[if_pos rfl,c,if_neg (by omega),if_neg (by omega),if_neg (by omega),if_pos (by omega)]
  congr 1;omega
 ·rw[if_neg f]
  by_cases g:p=a+i
  ·subst g;rw[if_pos rfl,c,if_neg (by omega),if_neg (by omega),if_pos (by omega)]
   congr 1;omega
  ·rw[if_neg g,c]
   by_cases c1:a<=p/\p<a+i
   ·rw[if_pos c1,if_pos (by omega)]
   ·have c1':¬(a<=p/\p<a+(i+1)):=by omega
    rw[if_neg c1,if_neg c1']
    by_cases c2:b<=p/\p<b+i
    ·have c2':b<=p/\p<b+(i+1):=by omega
     rw[if_pos c2,if_pos c2']
    ·have c2':¬(b<=p/\p<b+(i+1)):=by omega
     rw[if_neg c2,if_neg c2']
def XQ(d e:List α)(a m b:Nat):Prop:=e.length=d.length/\List.Perm e d/\∀p,A e p=if p<a\/b<=p then A d p else if p<a+(b-m) then A d (p+(m-a)) else A d (p-(b-m))
theorem A2I{d e f:List α}{m i j:Nat}(b:SwR d e (m-i) m j)(c:j<i)(n:i<=m)(h:XQ e f (m-(i-j)) m (m+j)):XQ d f (m-i) m (m+j):=by
 obtain⟨h1,g,a⟩:=b;obtain⟨k1,k,l⟩:=h;refine⟨k1.trans h1,k.trans g,λp=>?_⟩;rw[l p]
 by_cases c0:p<m-i\/m+j<=p
 ·rw[if_pos (by omega),if_pos c0,a,if_neg (by omega),if_neg (by omega)]
 ·rw[if_neg c0]
  by_cases c1:p<m-i+(m+j-m)
  ·rw[if_pos (by omega),if_pos c1,a,if_pos (by omega)]
  ·rw[if_neg c1,if_neg (by omega)]
   by_cases c2:p<m-(i-j)+(m+j-m)
   ·rw[if_pos c2,a,if_neg (by omega),if_pos (by omega)]
    congr 1;omega
   ·rw[if_neg c2,a,if_neg (by omega),if_neg (by omega)]
theorem A2J{d e f:List α}{m i j:Nat}(b:SwR d e (m-i) (m+j-i) i)(c:i<j)(n:i<=m)(h:XQ e f (m-i) m (m+(j-i))):XQ d f (m-i) m (m+j):=by
 obtain⟨h1,g,a⟩:=b;obtain⟨k1,k,l⟩:=h;refine⟨k1.trans h1,k.trans g,λp=>?_⟩;rw[l p]
 by_cases c0:p<m-i\/m+j<=p
 ·rw[if_pos (by omega),if_pos c0,a,if_neg (by omega),if_neg (by omega)]
 ·rw[if_neg c0]
  by_cases c3:m+(j-i)<=p
  ·rw[if_pos (by omega),a,if_neg (by omega),if_pos (by omega),if_neg (by omega)]
   congr 1;omega
  ·rw[if_neg (by omega)]
   by_cases c2:p<m-i+(m+(j-i)-m)
   ·rw[if_pos c2,if_pos (by omega),a]
    by_cases c4:m-i<=p+(m-(m-i))/\p+(m-(m-i))<m-i+i
    ·omega
    ·rw[if_neg c4,if_neg (by omega)]
   ·rw[if_neg c2,a]
    by_cases c5:p<m-i+(m+j-m)
    ·rw[if_pos c5,if_pos (by omega)]
     congr 1;omega
    ·omega
theorem A2K{d e:List α}{m i:Nat}(a:SwR d e (m-i) m i)(f:i<=m):XQ d e (m-i) m (m+i):=by
 obtain⟨h1,b,c⟩:=a;refine⟨h1,b,λp=>?_⟩;rw[c p]
 by_cases c0:p<m-i\/m+i<=p
 ·rw[if_pos c0,if_neg (by omega),if_neg (by omega)]
 ·rw[if_neg c0]
  by_cases c1:p<m-i+(m+i-m)
  ·rw[if_pos c1,if_pos (by omega)]
  ·rw[if_neg c1,if_neg (by omega),if_pos (by omega)]
   congr 1;omega
theorem xW{d e:List α}{a m b:Nat}(h:XQ d e a m b)(h1:a<=m)(g:m<=b):Chg d e a b:=by
 obtain⟨k1,f,c⟩:=h;refine⟨k1,f,λi hi=>by rw[c i,if_pos hi],λi j k=>?_⟩;rw[c i,if_neg (by omega)]
 split
 ·exact⟨i+(m-a),by omega,by omega,rfl⟩
 ·exact⟨i-(b-m),by omega,by omega,rfl⟩
structure Low (lt:α->α->Bool) (d:List α) (a m b i j:Nat):Prop where
  lo:∀k,m<=k->k<i->lt (A d k) (A d a)=true
  hi:∀k,j<=k->k<b->lt (A d k) (A d a)=false
theorem mR(d:List α)(a m b:Nat):Low lt d a m b m b:=⟨λk h1 c=>by omega,λk h1 c=>by omega⟩
theorem A2L(f:Ordr lt){d:List α}{a m b i j h:Nat}(hl:Low lt d a m b i j)(g:FI lt d m b)(h1:i<=h)(l:h<j)(n:j<=b)(p:m<=i)(c:lt (A d h) (A d a)=true):Low lt d a m b (h+1) j:=
 ⟨λk k1 q=>by
  by_cases e:k=h
  ·rw[e];exact c
  ·exact f.lt_le (g k h k1 (by omega) (by omega)) c,hl.hi⟩
theorem A2M(f:Ordr lt){d:List α}{a m b i j h:Nat}(hl:Low lt d a m b i j)(g:FI lt d m b)(h1:i<=h)(n:h<j)(p:m<=i)(c:lt (A d h) (A d a)=false):Low lt d a m b i h:=
 ⟨hl.lo,λk k1 l=>by
  by_cases e:k=h
  ·rw[e];exact c
  ·exact f.trans _ _ _ c (g h k (by omega) (by omega) l)⟩
structure Up (d e:List α) (a k b:Nat):Prop where
  chg:Chg d e a b
  lo:∀p,a<=p->p<k->A e p=A d (p+1)
  at_:A e k=A d a
  hi:∀p,k<p->A e p=A d p
theorem sU(d:List α)(a b:Nat):Up d d a a b:=⟨Chg.refl _ _ _,λp h1 c=>by omega,rfl,λ_ _=>rfl⟩
theorem xX{d e:List α}{a k b:Nat}(h:Up d e a k b)(hk:a<=k)(hb:k+1<b)(hl:b<=d.length):Up d (swp e k (k+1)) a (k+1) b:=by
 have hle:e.length=d.length:=h.chg.len;refine⟨h.chg.trans (Chg.swp ⟨hk,by omega⟩ ⟨by omega,hb⟩ (by omega)),λp h1 f=>?_,?_,λp hp=>?_⟩
 ·rw[IH (by omega) (by omega),if_neg (by omega)]
  split
  ·rename_i c;rw[h.hi _ (by omega),c]
  ·exact h.lo p h1 (by omega)
 ·rw[IH (by omega) (by omega),if_pos rfl];exact h.at_
 ·rw[IH (by omega) (by omega),if_neg (by omega),if_neg (by omega)];exact h.hi p (by omega)
theorem A2N(h:Ordr lt){d e:List α}{a m b i:Nat}(hu:Up d e a (i-1) b)(l:m=a+1)(hi:m<=i)(j:i<=b)(hl:Low lt d a m b i i)(c:FI lt d m b):FI lt e a b:=by
 intro p q h1 k f;have ep:A e p=if p<i-1 then A d (p+1) else if p=i-1 then A d a else A d p:=by
  split
  ·exact hu.lo p h1 ‹_›
  ·split
   ·rename_i g;rw[g];exact hu.at_
   ·exact hu.hi p (by omega)
 have eq:A e q=if q<i-1 then A d (q+1) else if q=i-1 then A d a else A d q:=by
  split
  ·exact hu.lo q (by omega) ‹_›
  ·split
   ·rename_i g;rw[g];exact hu.at_
   ·exact hu.hi q (by omega)
 rw[ep,eq]
 by_cases c1:q<i-1
 ·rw[if_pos c1,if_pos (by omega)];exact c _ _ (by omega) (by omega) (by omega)
 ·rw[if_neg c1]
  by_cases c2:q=i-1
  ·rw[if_pos c2,if_pos (by omega)];exact h.asym _ _ (hl.lo (p+1) (by omega) (by omega))
  ·rw[if_neg c2]
   by_cases c3:p<i-1
   ·rw[if_pos c3];exact c _ _ (by omega) (by omega) f
   ·rw[if_neg c3]
    by_cases c4:p=i-1
    ·rw[if_pos c4];exact hl.hi q (by omega) f
    ·rw[if_neg c4];exact c _ _ (by omega) k f
structure Hgh (lt:α->α->Bool) (d:List α) (a m i j:Nat):Prop where
  lo:∀k,a<=k->k<i->lt (A d m) (A d k)=false
  hi:∀k,j<=k->k<m->lt (A d m) (A d k)=true
theorem mS(d:List α)(a m:Nat):Hgh lt d a m a m:=⟨λk h1 b=>by omega,λk h1 b=>by omega⟩
theorem A2O(c:Ordr lt){d:List α}{a m i j h:Nat}(hl:Hgh lt d a m i j)(f:FI lt d a m)(h1:i<=h)(g:h<j)(l:j<=m)(n:a<=i)(b:lt (A d m) (A d h)=false):Hgh lt d a m (h+1) j:=
 ⟨λk k1 p=>by
  by_cases e:k=h
  ·rw[e];exact b
  ·exact c.trans _ _ _ (f k h k1 (by omega) (by omega)) b,hl.hi⟩
theorem A2P(c:Ordr lt){d:List α}{a m i j h:Nat}(hl:Hgh lt d a m i j)(f:FI lt d a m)(h1:i<=h)(p:h<j)(q:a<=i)(b:lt (A d m) (A d h)=true):Hgh lt d a m i h:=
 ⟨hl.lo,λk k1 g=>by
  by_cases e:k=h
  ·rw[e];exact b
  ·cases l:lt (A d m) (A d k) with
   |true=>rfl
   | false=>
    have n:=f h k (by omega) (by omega) g;have:=c.trans _ _ _ n l;rw[b] at this;cases this⟩
structure Dwn (d e:List α) (a k m:Nat):Prop where
  chg:Chg d e a (m+1)
  lo:∀p,p<k->A e p=A d p
  at_:A e k=A d m
  mid:∀p,k<p->p<=m->A e p=A d (p-1)
  hi:∀p,m<p->A e p=A d p
theorem mT(d:List α)(a m:Nat):Dwn d d a m m:=⟨Chg.refl _ _ _,λ_ _=>rfl,rfl,λp h1 b=>by omega,λ_ _=>rfl⟩
theorem sV{d e:List α}{a k m:Nat}(h:Dwn d e a k m)(hk:a<k)(f:k<=m)(hl:m<d.length):Dwn d (swp e k (k-1)) a (k-1) m:=by
 have hle:e.length=d.length:=h.chg.len;refine⟨h.chg.trans (Chg.swp ⟨by omega,by omega⟩ ⟨by omega,by omega⟩ (by omega)),λp h1=>?_,?_,λp h1 b=>?_,λp hp=>?_⟩
 ·rw[IH (by omega) (by omega),if_neg (by omega),if_neg (by omega)];exact h.lo p (by omega)
 ·rw[IH (by omega) (by omega),if_pos rfl];exact h.at_
 ·rw[IH (by omega) (by omega),if_neg (by omega)]
  split
  ·rename_i c;rw[h.lo _ (by omega),c]
  ·exact h.mid p (by omega) b
 ·rw[IH (by omega) (by omega),if_neg (by omega),if_neg (by omega)];exact h.hi p hp
theorem xY(f:Ordr lt){d e:List α}{a m i:Nat}(hu:Dwn d e a i m)(hi:a<=i)(g:i<=m)(hl:Hgh lt d a m i i)(b:FI lt d a m):FI lt e a (m+1):=by
 intro p q h1 h j;have ep:A e p=if p<i then A d p else if p=i then A d m else A d (p-1):=by
  split
  ·exact hu.lo p ‹_›
  ·split
   ·rename_i c;rw[c];exact hu.at_
   ·exact hu.mid p (by omega) (by omega)
 have eq:A e q=if q<i then A d q else if q=i then A d m else A d (q-1):=by
  split
  ·exact hu.lo q ‹_›
  ·split
   ·rename_i c;rw[c];exact hu.at_
   ·exact hu.mid q (by omega) (by omega)
 rw[ep,eq]
 by_cases c1:q<i
 ·rw[if_pos c1,if_pos (by omega)];exact b _ _ h1 h (by omega)
 ·rw[if_neg c1]
  by_cases c2:q=i
  ·rw[if_pos c2,if_pos (by omega)];exact hl.lo p h1 (by omega)
  ·rw[if_neg c2]
   by_cases c3:p<i
   ·rw[if_pos c3];exact b _ _ h1 (by omega) (by omega)
   ·rw[if_neg c3]
    by_cases c4:p=i
    ·rw[if_pos c4];exact f.asym _ _ (hl.hi (q-1) (by omega) (by omega))
    ·rw[if_neg c4];exact b _ _ (by omega) (by omega) (by omega)
structure Sea (lt:α->α->Bool) (d:List α) (s0 r0 n s r:Nat):Prop where
  lo:∀c,s0<=c->c<s->lt (A d (n-1-c)) (A d c)=false
  hi:∀c,r<=c->c<r0->lt (A d (n-1-c)) (A d c)=true
theorem XR(d:List α)(a r0 n:Nat):Sea lt d a r0 n a r0:=⟨λc h1 b=>by omega,λc h1 b=>by omega⟩
theorem sW(j:Ordr lt){d:List α}{a m b f r0 n s r c:Nat}(hl:Sea lt d f r0 n s r)(h:FI lt d a m)(i:FI lt d m b)(h1:s<=c)(q:c<r)(t:r<=r0)(u:f<=s)(v:a<=f)(w:r0<=m)(l:m+r0<=n)(p:n<=b+f)(g:lt (A d (n-1-c)) (A d c)=false):Sea lt d f r0 n (c+1) r:=
 ⟨λk k1 x=>by
  by_cases e:k=c
  ·rw[e];exact g
  ·exact j.trans _ _ _ (j.trans _ _ _ (h k c (by omega) (by omega) (by omega)) g) (i _ _ (by omega) (by omega) (by omega)),hl.hi⟩
theorem sX(j:Ordr lt){d:List α}{a m b f r0 n s r c:Nat}(hl:Sea lt d f r0 n s r)(h:FI lt d a m)(i:FI lt d m b)(h1:s<=c)(v:c<r)(w:r<=r0)(x:f<=s)(y:a<=f)(z:r0<=m)(l:m+r0<=n)(p:n<=b+f)(g:lt (A d (n-1-c)) (A d c)=true):Sea lt d f r0 n s c:=
 ⟨hl.lo,λk k1 k2=>by
  by_cases e:k=c
  ·rw[e];exact g
  ·have q:=h c k (by omega) (by omega) (by omega);have t:=i (n-1-k) (n-1-c) (by omega) (by omega) (by omega)
   cases u:lt (A d (n-1-k)) (A d k) with
   |true=>rfl
   | false=>
    have:=j.trans _ _ _ (j.trans _ _ _ q u) t;rw[g] at this;cases this⟩
def sY(lt:α->α->Bool)(d:List α)(a mid b:Nat):Prop:=∀p q,a<=p->p<mid->mid<=q->q<b->lt (A d q) (A d p)=false
theorem xZ{d e f:List α}{a c b:Nat}(h:sY lt d a c b)(h1:Chg d e a c)(g:Chg e f c b):sY lt f a c b:=by
 intro p q k1 i j k;rw[g.out p (by omega)];obtain⟨p',l,a2,m⟩:=h1.mem p k1 i;obtain⟨q',n,r,s⟩:=g.mem q j k;rw[m,s,h1.out q' (by omega)];exact h p' q' l a2 n r
theorem sZ{d:List α}{a c b:Nat}(h1:FI lt d a c)(g:FI lt d c b)(hc:sY lt d a c b):FI lt d a b:=by
 intro p q k1 e f
 rcases Nat.lt_or_ge q c with h|h
 ·exact h1 p q k1 e h
 ·rcases Nat.lt_or_ge p c with h'|h'
  ·exact hc p q k1 h' h f
  ·exact g p q h' e f
theorem OA(u:Ordr lt){d f:List α}{a m b c j r0 n s e:Nat}(hn:n=c+m)(he:e=n-s)(i:Sea lt d j r0 n s s)(k:FI lt d a m)(l:FI lt d m b)
  (h0:j<=s) (h1:s<=r0) (a1:a<=c) (a2:c<=b) (a3:a<=m) (z:m<=b) (g:(c<m/\j=n-b/\b<=n/\r0=c)\/(m<=c/\j=a/\r0=m)) (a0:a<=j) (a4:n<=b+j)
  (v:XQ d f s m e):sY lt f a c b:=by
 obtain⟨k1,k2,y⟩:=v;have hsm:s<=m:=by omega
 have hme:m<=e:=by omega
 have heb:e<=b:=by omega
 intro p q p1 p2 q1 q2
 -- where the elements come from
 have ep:(p<s/\A f p=A d p)\/(s<=p/\A f p=A d (p+(m-s))/\p+(m-s)<e):=by
  rcases Nat.lt_or_ge p s with h|h
  ·left;exact⟨h,by rw[y p,if_pos (by omega)]⟩
  ·right;exact⟨h,by rw[y p,if_neg (by omega),if_pos (by omega)],by omega⟩
 have eq:(e<=q/\A f q=A d q)\/(q<e/\A f q=A d (q-(e-m))/\s<=q-(e-m)/\q-(e-m)<m):=by
  rcases Nat.lt_or_ge q e with h|h
  ·right;exact⟨h,by rw[y q,if_neg (by omega),if_neg (by omega)],by omega,by omega⟩
  ·left;exact⟨h,by rw[y q,if_pos (by omega)]⟩
 rcases ep with ⟨hp,e1⟩|⟨hp,e1,a5⟩<;>rcases eq with ⟨hq,e2⟩|⟨hq,e2,a6,w⟩<;>rw[e1,e2]
 ·
  by_cases hs:s=j
  ·rcases g with ⟨c1,c2,c3,c4⟩|⟨c1,c2,c3⟩<;>omega
  ·have t:=i.lo (s-1) (by omega) (by omega);rw[show n-1-(s-1)=e from by omega] at t;have x:lt (A d e) (A d p)=false:=by
    by_cases r:p=s-1
    ·rw[r];exact t
    ·exact u.trans _ _ _ (k p (s-1) p1 (by omega) (by omega)) t
   by_cases r:q=e
   ·rw[r];exact x
   ·exact u.trans _ _ _ x (l e q hme (by omega) q2)
 ·exact k p _ p1 (by omega) w
 ·exact l _ q (by omega) (by omega) q2
 ·by_cases hs:s=r0
  ·rcases g with ⟨c1,c2,c3,c4⟩|⟨c1,c2,c3⟩<;>omega
  ·have t:=i.hi s (by omega) (by omega);rw[show n-1-s=e-1 from by omega] at t;have h3':=u.asym _ _ t;have x:lt (A d s) (A d (p+(m-s)))=false:=by
    by_cases r:p+(m-s)=e-1
    ·rw[r];exact h3'
    ·exact u.trans _ _ _ (l _ (e-1) (by omega) (by omega) (by omega)) h3'
   by_cases r:q-(e-m)=s
   ·rw[r];exact x
   ·exact u.trans _ _ _ x (k s _ (by omega) (by omega) w)
theorem OB{d f:List α}{a m b s e:Nat}(g:XQ d f s m e)(h:FI lt d a m)(j:FI lt d m b)(h1:a<=s)(k:s<=m)(l:m<=e)(r:e<=b):
  FI lt f a s/\FI lt f s (s+(e-m))/\FI lt f (s+(e-m)) e/\FI lt f e b:=by
 obtain⟨k1,t,c⟩:=g;refine⟨gO (I3 h (Nat.le_refl _) k) (λi n i2=>by rw[c i,if_pos (by omega)]),λp q p1 p2 p3=>?_,λp q p1 p2 p3=>?_,gO (I3 j l (Nat.le_refl _)) (λi n i2=>by rw[c i,if_pos (by omega)])⟩
 ·have ep:A f p=A d (p+(m-s)):=by rw[c p,if_neg (by omega),if_pos (by omega)]
  have eq:A f q=A d (q+(m-s)):=by rw[c q,if_neg (by omega),if_pos (by omega)]
  rw[ep,eq];exact j _ _ (by omega) (by omega) (by omega)
 ·have ep:A f p=A d (p-(e-m)):=by rw[c p,if_neg (by omega),if_neg (by omega)]
  have eq:A f q=A d (q-(e-m)):=by rw[c q,if_neg (by omega),if_neg (by omega)]
  rw[ep,eq];exact h _ _ (by omega) (by omega) (by omega)
theorem QM{d:List α}{s m e:Nat}(h:s=m\/m=e)(h1:s<=m)(a:m<=e):XQ d d s m e:=by
 refine⟨rfl,List.Perm.refl _,λp=>?_⟩
 by_cases c:p<s\/e<=p
 ·rw[if_pos c]
 ·rw[if_neg c]
  rcases h with h|h
  ·rw[if_pos (by omega)];congr 1;omega
  ·rw[if_neg (by omega)];congr 1;omega
def yA(lt:α->α->Bool)(d:List α)(w n lo:Nat):Prop:=∀q,lo<=q*w->FI lt d (q*w) (min (q*w+w) n)
def Bld(lt:α->α->Bool)(d:List α)(w hi:Nat):Prop:=∀q,q*w+w<=hi->FI lt d (q*w) (q*w+w)
theorem dG(d:List α){w:Nat}(a:0<w):Bld lt d w 0:=λq h=>by omega
theorem XS(q a w:Nat):q*w+w<=a*w\/q=a\/a*w+w<=q*w:=by
 rcases Nat.lt_trichotomy q a with h|h|h
 ·left
  have:=Nat.mul_le_mul_right w (show q+1<=a from h);rw[Nat.add_mul,Nat.one_mul] at this;exact this
 ·exact .inr (.inl h)
 ·right;right
  have:=Nat.mul_le_mul_right w (show a+1<=q from h);rw[Nat.add_mul,Nat.one_mul] at this;exact this
theorem QN{d e:List α}{w a b:Nat}(h:Bld lt d w a)(f:∃c,a=c*w)(i:0<w)(hb:b=a+w)(hc:Chg d e a b)(g:FI lt e a b):Bld lt e w b/\∃c,b=c*w:=by
 obtain⟨c,rfl⟩:=f;subst hb;refine⟨λq hq=>?_,c+1,by rw[Nat.add_mul,Nat.one_mul]⟩
 rcases XS q c w with h1|h1|h1
 ·exact BL (h q h1) hc (.inl h1)
 ·subst h1;exact g
 ·omega
theorem yB{d e:List α}{w n lo a b:Nat}(h:yA lt d w n lo)(hc:Chg d e a b)(hb:lo<=b):yA lt e w n b:=λq hq=>BL (h q (by omega)) hc (.inr hq)
theorem ZS{d:List α}{w n a:Nat}(h:Bld lt d w a)(c:∃b,a=b*w)(e:FI lt d a n)(f:n<=a+w):yA lt d w n 0:=by
 obtain⟨b,rfl⟩:=c;intro q _
 rcases XS q b w with h1|h1|h1
 ·exact I3 (h q h1) (Nat.le_refl _) (Nat.min_le_left _ _)
 ·subst h1;exact I3 e (Nat.le_refl _) (Nat.min_le_right _ _)
 ·intro i j g k l;have:=Nat.min_le_right (q*w+w) n;omega
theorem dH{d e:List α}{w a b:Nat}(h:Bld lt d w a)(hc:Chg d e a b):Bld lt e w a:=λq hq=>BL (h q hq) hc (.inl hq)
theorem QO{d:List α}{w n a:Nat}(h:yA lt d w n a)(f:∃b,a=b*(2*w)):FI lt d a (min (a+w) n)/\FI lt d (a+w) (min (a+w+w) n):=by
 obtain⟨b,rfl⟩:=f;have c:(2*b)*w=b*(2*w):=by rw[Nat.mul_comm 2 b,Nat.mul_assoc]
 have g:(2*b+1)*w=b*(2*w)+w:=by rw[Nat.add_mul,Nat.one_mul,c]
 have h1:=h (2*b) (by omega);have e:=h (2*b+1) (by omega);rw[c] at h1;rw[g] at e;exact⟨h1,e⟩
theorem yC{d:List α}{w n:Nat}(h:yA lt d w n 0)(a:n<=w):FI lt d 0 n:=by
 have:=h 0 (by omega);rw[Nat.zero_mul] at this;exact I3 this (Nat.le_refl _) (by omega)
theorem ZT{d:List α}{a b n:Nat}(h:FI lt d a (min b n))(hb:b<=n):FI lt d a b:=I3 h (Nat.le_refl _) (by omega)
theorem dI{d:List α}{a b n:Nat}(h:FI lt d a (min b n))(hb:n<=b):FI lt d a n:=I3 h (Nat.le_refl _) (by omega)
theorem LH{β:Type}{lt:β->β->Bool}(b:∀x y:β,lt x y=false->lt y x=false->x=y):∀{d e:List β},List.Perm d e->d.Pairwise (λx y=>lt y x=false)->e.Pairwise (λx y=>lt y x=false)->d=e
 | [],e,hp,_,_=>(List.Perm.nil_eq hp)
 |x::d,[],hp,_,_=>absurd hp.length_eq (by simp)
 | x::d,y::e,hp,hd,he=>by
  rw[List.pairwise_cons] at hd he;have hxy:x=y:=by
   have h1:y∈x::d:=hp.mem_iff.2 (by simp);have a:x∈y::e:=hp.mem_iff.1 (by simp)
   rcases List.mem_cons.1 h1 with h1|h1
   ·exact h1.symm
   ·rcases List.mem_cons.1 a with a|a
    ·exact a
    ·exact b x y (he.1 x a) (hd.1 y h1)
  subst hxy;rw[LH b ((List.perm_cons x).1 hp) hd.2 he.2]
theorem A2Q{d:List α}(h:FI lt d 0 d.length):d.Pairwise (λx y=>lt y x=false):=by
 rw[List.pairwise_iff_getElem];intro i j hi hj hij;have:=h i j (Nat.zero_le _) hij hj;rw[KI (List.getElem?_eq_getElem hi),KI (List.getElem?_eq_getElem hj)] at this;exact this
end
end Go.Sy
namespace Go.Sy
section
variable {α:Type} [Inhabited α] {lt:α->α->Bool}
def Tgd(lt:α->α->Bool)(tg:α->Nat)(d:List α):Prop:=∀p q,p<q->q<d.length->lt (A d q) (A d p)=false->lt (A d p) (A d q)=false->tg (A d p)<tg (A d q)
def JA(lt:α->α->Bool)(d e:List α):Prop:=∀tg:α->Nat,Tgd lt tg d->Tgd lt tg e
theorem NR(d:List α):JA lt d d:=λ_ h=>h
theorem G5{d e f:List α}(h:JA lt d e)(k:JA lt e f):JA lt d f:=λtg ht=>k tg (h tg ht)
theorem CQ{e:List α}{a b c f:Nat}(h:FI lt e c f)(g:c<=a)(hb:b<=f):Chg e e a b/\FI lt e a b/\JA lt e e:=⟨Chg.refl _ _ _,I3 h g hb,NR _⟩
theorem A4{d f g e:List α}{a c b m n p:Nat}(i:XQ d f m n p)(h:m<=n/\n<=p/\a<=m/\p<=b/\a<=c/\c<=b)(q:sY lt f a c b)(j:JA lt d f)
  (l:Chg f g a c/\FI lt g a c/\JA lt f g) (k:Chg g e c b/\FI lt e c b/\JA lt g e):Chg d e a b/\FI lt e a b/\JA lt d e:=
 ⟨(((xW i h.1 h.2.1).mono h.2.2.1 h.2.2.2.1).trans (l.1.mono (Nat.le_refl _) h.2.2.2.2.2)).trans (k.1.mono h.2.2.2.2.1 (Nat.le_refl _)),sZ (BL l.2.1 k.1 (.inl (Nat.le_refl _))) k.2.1 (xZ q l.1 k.1),G5 j (G5 l.2.2 k.2.2)⟩
theorem kF{d e:List α}(σ:Nat->Nat)(hl:e.length=d.length)(h:∀p,p<d.length->σ p<d.length/\A e p=A d (σ p))(g:∀p q,p<q->q<d.length->σ p<σ q\/lt (A e p) (A e q)=true):JA lt d e:=λtg ht p q h1 b f c=>by
 rw[hl] at b
 rcases g p q h1 b with a|a
 ·have hp:=h p (by omega);have hq:=h q b;rw[hp.2,hq.2] at f c⊢;exact ht _ _ a hq.1 f c
 ·rw[c] at a;cases a
theorem ZU{d:List α}{j:Nat}(b:1<=j)(hl:j<d.length)(a:lt (A d j) (A d (j-1))=true):JA lt d (swp d j (j-1)):=by
 have g:∀p,A (swp d j (j-1)) p=if p=j-1 then A d j else if p=j then A d (j-1) else A d p:=λp=>IH hl (by omega)
 refine kF (λp=>if p=j-1 then j else if p=j then j-1 else p) (I2 _ _ _) (λp hp=>⟨?_,?_⟩) (λp q h1 c=>?_)
 ·split
  ·exact hl
  ·split
   ·omega
   ·exact hp
 ·rw[g]
  split
  ·rfl
  ·split<;>rfl
 ·by_cases e:p=j-1/\q=j
  ·right
   rw[g,g,if_pos e.1,if_neg (by omega),if_pos e.2];exact a
  ·left
   split<;>split<;>(try split)<;>(try split)<;>omega
theorem OC{d f:List α}{s m e:Nat}(b:XQ d f s m e)(h1:s<=m)(h:m<=e)(i:e<=d.length)(g:∀x y,s<=x->x<m->m<=y->y<e->lt (A d y) (A d x)=true):JA lt d f:=by
 obtain⟨k1,_,a⟩:=b;refine kF (λp=>if p<s\/e<=p then p else if p<s+(e-m) then p+(m-s) else p-(e-m)) k1 (λp hp=>⟨?_,?_⟩) (λp q g1 g2=>?_)
 ·split
  ·exact hp
  ·split<;>omega
 ·rw[a]
  split
  ·rfl
  ·split<;>rfl
 ·by_cases c:(s<=p/\p<s+(e-m))/\(s+(e-m)<=q/\q<e)
  ·right
   rw[a p,a q,if_neg (by omega),if_pos (by omega),if_neg (by omega),if_neg (by omega)];exact g _ _ (by omega) (by omega) (by omega) (by omega)
  ·left
   split<;>split<;>(try split)<;>(try split)<;>omega
theorem IR(p:Ordr lt){d:List α}{a m b f h r0 n s e:Nat}(hn:n=f+m)(he:e=n-s)(i:Sea lt d h r0 n s s)(j:FI lt d a m)(k:FI lt d m b)
  (h0:h<=s) (h1:s<=r0) (v:a<=f) (w:f<=b) (z:a<=m) (q:m<=b) (g:(f<m/\h=n-b/\b<=n/\r0=f)\/(m<=f/\h=a/\r0=m)) (r:a<=h) (a0:n<=b+h):
  ∀x y,s<=x->x<m->m<=y->y<e->lt (A d y) (A d x)=true:=λx y g1 g2 g3 g4=>by
 have hs:s<r0:=by rcases g with ⟨c1,c2,c3,c4⟩|⟨c1,c2,c3⟩<;>omega
 have l:=i.hi s (Nat.le_refl _) hs;rw[show n-1-s=e-1 from by omega] at l
 cases t:lt (A d y) (A d x) with
 |true=>rfl
 | false=>
  have u:lt (A d (e-1)) (A d x)=false:=by
   by_cases c:y=e-1
   ·rw[<-c];exact t
   ·exact p.trans _ _ _ t (k y (e-1) g3 (by omega) (by rcases g with ⟨c1,c2,c3,c4⟩|⟨c1,c2,c3⟩<;>omega))
  have h5:lt (A d (e-1)) (A d s)=false:=by
   by_cases c:x=s
   ·rw[<-c];exact u
   ·exact p.trans _ _ _ (j s x (by omega) (by omega) g2) u
  rw[h5] at l;cases l
theorem A2R{d e:List α}{a k b i m:Nat}(h:Up d e a k b)(hl:Low lt d a m b i i)(l:m=a+1)(hk:a<=k)(c:k+1<i)(f:i<=b)(hb:b<=d.length)(g:JA lt d e):JA lt d (swp e k (k+1)):=by
 have hle:e.length=d.length:=h.chg.len;have h1:=ZU (lt:=lt) (d:=e) (j:=k+1) (by omega) (by omega) (by
  rw[show k+1-1=k from by omega,h.at_,h.hi (k+1) (by omega)];exact hl.lo (k+1) (by omega) (by omega))
 rw[show k+1-1=k from by omega,dC (by omega) (by omega)] at h1;exact G5 g h1
theorem yD{d e:List α}{a k m i:Nat}(h:Dwn d e a k m)(hl:Hgh lt d a m i i)(hk:i<k)(c:k<=m)(hb:m<d.length)(b:JA lt d e):JA lt d (swp e k (k-1)):=by
 have hle:e.length=d.length:=h.chg.len;exact G5 b (ZU (by omega) (by omega) (by
  rw[h.at_,h.lo (k-1) (by omega)];exact hl.hi (k-1) (by omega) (by omega)))
end
abbrev Rk(lt:Nat->Nat->Bool)(x y:Nat):Prop:=lt y x=false/\(lt x y=false->x<y)
theorem A2S{lt:Nat->Nat->Bool}{l:List Nat}(b:FI lt l 0 l.length)(c:Tgd lt id l):l.Pairwise (Rk lt):=by
 rw[List.pairwise_iff_getElem];intro i j hi hj hij;have ai:A l i=l[i]:=by simp[A,hi]
 have aj:A l j=l[j]:=by simp[A,hj]
 have h1:=b i j (Nat.zero_le _) hij hj;rw[ai,aj] at h1;refine⟨h1,λe=>?_⟩;have a:=c i j hij hj (by rw[ai,aj];exact h1) (by rw[ai,aj];exact e);rw[ai,aj] at a;exact a
theorem mU{lt:Nat->Nat->Bool}{d e:List Nat}(hp:List.Perm d e)(hd:d.Pairwise (Rk lt))(c:e.Pairwise (Rk lt)):d=e:=by
 have key:∀l:List Nat,l.Pairwise (Rk lt)->l.Pairwise (λx y=>(lt y x||(!(lt x y)&&decide (y<x)))=false):=λl h=>h.imp λ{x y} h=>by
  rw[h.1,Bool.false_or]
  cases b:lt x y with
  |true=>simp
  | false=>
   have:=h.2 b;simp only[Bool.not_false,Bool.true_and,decide_eq_false_iff_not];omega
 refine LH (lt:=λx y=>lt x y||(!(lt y x)&&decide (x<y))) (λx y h1 b=>?_) hp (key d hd) (key e c);simp only[Bool.or_eq_false_iff,Bool.and_eq_false_iff,Bool.not_eq_false',decide_eq_false_iff_not] at h1 b
 rcases h1 with ⟨f,a2⟩
 rcases b with ⟨g,a⟩
 rcases a2 with a2|a2
 ·rw[g] at a2;cases a2
 ·rcases a with a|a
  ·rw[f] at a;cases a
  ·omega
section
variable {α β:Type}
def LI(lt:α->α->Bool)(x:α):List α->List α
 | []=> [x]
 |y::s=>if lt x y=true then x::y::s else y::LI lt x s
def MR(lt:α->α->Bool)(l:List α):List α:=l.foldl (λs x=>LI lt x s) []
theorem kG{lt:α->α->Bool}{l:List α}{k:Nat}{x:α}(h:l[k]?=some x):LI lt x (MR lt (l.take k))=MR lt (l.take (k+1)):=by
 unfold MR;rw[A1 h,List.foldl_append];rfl
theorem LV(lt:α->α->Bool)(x:α):∀s:List α,List.Perm (LI lt x s) (x::s)
 | []=>List.Perm.refl _
 | y::s=>by
  unfold LI
  split
  ·exact List.Perm.refl _
  ·exact((LV lt x s).cons y).trans (List.Perm.swap x y s)
theorem UU(lt:α->α->Bool):∀(l s:List α),List.Perm (l.foldl (λs x=>LI lt x s) s) (l++s)
 | [],s=>List.Perm.refl _
 | x::l,s=>by
  simp only[List.foldl_cons,List.cons_append];exact((UU lt l _).trans ((LV lt x s).append_left l)).trans List.perm_middle
theorem MH(lt:α->α->Bool)(l:List α):List.Perm (MR lt l) l:=by
 have:=UU lt l [];simpa [MR] using this
theorem XT(lt:α->α->Bool)(l:List α):(MR lt l).length=l.length:=(MH lt l).length_eq
abbrev Pw(lt:α->α->Bool)(s:List α):Prop:=s.Pairwise (λx y=>lt y x=false)
theorem kH{lt:α->α->Bool}(asym:∀x y,lt x y=true->lt y x=false)(trans:∀x y z,lt y x=false->lt z y=false->lt z x=false)(x:α):∀{s:List α},Pw lt s->Pw lt (LI lt x s)
 | [],_=>List.pairwise_singleton _ _
 | y::s,h=>by
  have h':=List.pairwise_cons.1 h;unfold LI
  split
  ·rename_i hx;refine List.pairwise_cons.2 ⟨λz hz=>?_,h⟩
   rcases List.mem_cons.1 hz with rfl|hz
   ·exact asym _ _ hx
   ·exact trans _ _ _ (asym _ _ hx) (h'.1 z hz)
  ·rename_i hx;refine List.pairwise_cons.2 ⟨λz hz=>?_,kH asym trans x h'.2⟩
   rcases List.mem_cons.1 ((LV lt x s).mem_iff.1 hz) with rfl|hz
   ·simpa using hx
   ·exact h'.1 z hz
theorem dJ{lt:α->α->Bool}(asym:∀x y,lt x y=true->lt y x=false)(trans:∀x y z,lt y x=false->lt z y=false->lt z x=false):∀(l:List α) {s:List α},Pw lt s->Pw lt (l.foldl (λs x=>LI lt x s) s)
 | [],_,h=>h
 |x::l,_,h=>by simp only[List.foldl_cons];exact dJ asym trans l (kH asym trans x h)
theorem UV{lt:α->α->Bool}(asym:∀x y,lt x y=true->lt y x=false)(trans:∀x y z,lt y x=false->lt z y=false->lt z x=false)(l:List α):Pw lt (MR lt l):=dJ asym trans l List.Pairwise.nil
theorem kI{lt:α->α->Bool}{x:α}:∀{s:List α} {k:Nat},(∀i,i<k->∀y,s[i]?=some y->lt x y=false)->(∀y,s[k]?=some y->lt x y=true)->k<=s.length->s.take k++x::s.drop k=LI lt x s
 | [],0,_,_,_=>rfl
 | [],k+1,_,_,h=>by simp at h
 | y::s,0,_,h,_=>by
  have:=h y rfl;simp[LI,this]
 | y::s,k+1,h1,a,b=>by
  have h0:=h1 0 (by omega) y rfl;unfold LI;rw[h0];simp only[List.take_succ_cons,List.drop_succ_cons,List.cons_append,Bool.false_eq_true,if_false];rw[kI (λi hi z hz=>h1 (i+1) (by omega) z (by simpa using hz)) (λz hz=>a z (by simpa using hz)) (by simpa using b)]
def IF(s:List α)(x:α)(k:Nat):List α:=s.take k++(s[k]?).getD x::s.drop k
theorem kJ{s:List α}{x:α}{k:Nat}(hk:k<=s.length):(IF s x k).length=s.length+1:=by
 unfold IF;simp only[List.length_append,List.length_take,List.length_cons,List.length_drop];omega
theorem XU(s:List α)(x:α):s++ [x]=IF s x s.length:=by unfold IF;simp
theorem ZV{s:List α}{x:α}{k i:Nat}(hk:k<=s.length)(a:i<k):(IF s x k)[i]?=s[i]?:=by
 unfold IF;rw[List.getElem?_append_left (by rw[List.length_take];omega),List.getElem?_take,if_pos a]
theorem dK{s:List α}{x y:α}{k:Nat}(hk:k<=s.length)(h0:0<k)(a:(IF s x k)[k-1]?=some y):(IF s x k).set k y=IF s x (k-1):=by
 rw[ZV hk (by omega)] at a;obtain⟨j,rfl⟩:∃j,k=j+1:=⟨k-1,by omega⟩;rw[show j+1-1=j from by omega] at a⊢;unfold IF;rw[a,Option.getD_some];have h1:(s.take (j+1)).length=j+1:=by rw[List.length_take];omega
 rw[List.set_append_right _ _ (by omega),h1,Nat.sub_self,List.set_cons_zero,A1 a,List.append_assoc];have hj:j<s.length:=by omega
 have:s[j]=y:=by rw[List.getElem?_eq_getElem hj] at a;exact Option.some.inj a
 rw[List.drop_eq_getElem_cons hj,this];rfl
theorem yE{s:List α}{x:α}{k:Nat}(hk:k<=s.length):(IF s x k).set k x=s.take k++x::s.drop k:=by
 unfold IF;have h1:(s.take k).length=k:=by rw[List.length_take];omega
 rw[List.set_append_right _ _ (by omega),h1,Nat.sub_self,List.set_cons_zero]
theorem tA{p:α->Prop}{s:List α}{x y:α}{k:Nat}(hk:k<=s.length/\0<k)(b:∀q,k<=q->∀z,s[q]?=some z->p z)(a:(IF s x k)[k-1]?=some y)(hp:p y):∀q,k-1<=q->∀z,s[q]?=some z->p z:=by
 intro q hq z hz
 by_cases e:q=k-1
 ·subst e;rw[ZV hk.1 (by omega),hz] at a
  cases a;exact hp
 ·exact b q (by omega) z hz
theorem kK{lt:α->α->Bool}(asym:∀x y,lt x y=true->lt y x=false)(trans:∀x y z,lt y x=false->lt z y=false->lt z x=false){s:List α}{x:α}{k:Nat}(b:Pw lt s)(hk:k<=s.length)
  (c:∀i,k<=i->∀y,s[i]?=some y->lt x y=true) (f:k=0\/∃y,(IF s x k)[k-1]?=some y/\lt x y=false):(IF s x k).set k x=LI lt x s:=by
 rw[yE hk];refine kI (λi h y hy=>?_) (λy hy=>c k (Nat.le_refl _) y hy) hk
 rcases f with rfl|⟨z,hz,hl⟩
 ·omega
 ·rw[ZV hk (by omega)] at hz
  by_cases e:i=k-1
  ·subst e;rw[hz] at hy;cases hy;exact hl
  ·have h1:i<s.length:=by omega
   have a:k-1<s.length:=by omega
   rw[List.getElem?_eq_getElem h1] at hy;rw[List.getElem?_eq_getElem a] at hz
   cases hy;cases hz
   exact trans _ _ _ ((List.pairwise_iff_getElem.1 b) i (k-1) h1 a (by omega)) hl
theorem dL(f:β->α)(lt:α->α->Bool)(x:β):∀s:List β,(LI (λa b=>lt (f a) (f b)) x s).map f=LI lt (f x) (s.map f)
 | []=>rfl
 | y::s=>by
  simp only[LI,List.map_cons]
  split
  ·rfl
  ·rw[List.map_cons,dL f lt x s]
theorem XV(f:β->α)(lt:α->α->Bool):∀(l s:List β),(l.foldl (λs x=>LI (λa b=>lt (f a) (f b)) x s) s).map f=(l.map f).foldl (λs x=>LI lt x s) (s.map f)
 | [],_=>rfl
 | x::l,s=>by
  simp only[List.foldl_cons,List.map_cons];rw[XV f lt l,dL]
theorem kL{lt:Nat->Nat->Bool}(a:Ordr lt)(x:Nat):∀{s:List Nat},s.Pairwise (Rk lt)->(∀y∈s,y<x)->(LI lt x s).Pairwise (Rk lt)
 | [],_,_=>List.pairwise_singleton _ _
 | y::s,h,hx=>by
  have h':=List.pairwise_cons.1 h;unfold LI
  split
  ·rename_i hl;refine List.pairwise_cons.2 ⟨λz hz=>?_,h⟩;have h1:lt x z=true:=by
    rcases List.mem_cons.1 hz with rfl|hz
    ·exact hl
    ·cases e:lt x z with
     |true=>rfl
     | false=>
      have:=a.trans y z x (h'.1 z hz).1 e;rw[hl] at this;cases this
   exact⟨a.asym _ _ h1,λb=>by rw[h1] at b;cases b⟩
  ·rename_i hl;refine List.pairwise_cons.2 ⟨λz hz=>?_,kL a x h'.2 (λz hz=>hx z (List.mem_cons_of_mem _ hz))⟩
   rcases List.mem_cons.1 ((LV lt x s).mem_iff.1 hz) with rfl|hz
   ·exact⟨by simpa using hl,λ_=>hx y (List.mem_cons_self ..)⟩
   ·exact h'.1 z hz
theorem dM{lt:Nat->Nat->Bool}(a:Ordr lt):∀(l:List Nat) {s:List Nat},l.Pairwise (·<·)->s.Pairwise (Rk lt)->(∀x∈l,∀y∈s,y<x)->(l.foldl (λs x=>LI lt x s) s).Pairwise (Rk lt)
 | [],_,_,h,_=>h
 | x::l,s,hl,h,hx=>by
  have hl':=List.pairwise_cons.1 hl;simp only[List.foldl_cons];refine dM a l hl'.2 (kL a x h (hx x (List.mem_cons_self ..))) (λz hz y hy=>?_)
  rcases List.mem_cons.1 ((LV lt x s).mem_iff.1 hy) with rfl|hy
  ·exact hl'.1 z hz
  ·exact hx z (List.mem_cons_of_mem _ hz) y hy
theorem mV{α:Type} [Inhabited α]{lt:α->α->Bool}{l:List α}(a:Ordr (λi j:Nat=>lt (A l i) (A l j))){e:List Nat}(hp:List.Perm e (List.range l.length))(b:FI (λi j:Nat=>lt (A l i) (A l j)) e 0 l.length)(c:Tgd (λi j:Nat=>lt (A l i) (A l j)) id e):e.map (A l)=MR lt l:=by
 have hlen:e.length=l.length:=by rw[hp.length_eq,List.length_range]
 have h1:=A2S (by rw[hlen];exact b) c;have f:(MR (λi j:Nat=>lt (A l i) (A l j)) (List.range l.length)).Pairwise (Rk (λi j:Nat=>lt (A l i) (A l j))):=dM a _ List.pairwise_lt_range List.Pairwise.nil (λ_ _ y hy=>by cases hy);have g:=mU (hp.trans (MH _ _).symm) h1 f;have h:(List.range l.length).map (A l)=l:=by
  apply List.ext_getElem?
  intro i;rw[List.getElem?_map]
  by_cases hi:i<l.length
  ·rw[List.getElem?_range hi,OY hi];rfl
  ·rw[List.getElem?_eq_none (by simpa using hi),List.getElem?_eq_none (by omega)];rfl
 rw[g];unfold MR;rw[XV,h];rfl
theorem dN{α:Type} [Inhabited α]{f:Nat->α}{e:List Nat}{i:Nat}(h:i<e.length):A (e.map f) i=f (A e i):=by
 refine KI ?_;rw[List.getElem?_map,OY h];rfl
theorem yF{α:Type} [Inhabited α]{f:Nat->α}{e:List Nat}{i j:Nat}(a:i<e.length)(b:j<e.length):(swp e i j).map f=swp (e.map f) i j:=by
 unfold swp;rw[dN a,dN b,List.map_set,List.map_set]
theorem yG{α:Type} [Inhabited α](l:List α):(List.range l.length).map (A l)=l:=by
 apply List.ext_getElem?
 intro i;rw[List.getElem?_map]
 by_cases hi:i<l.length
 ·rw[List.getElem?_range hi,OY hi];rfl
 ·rw[List.getElem?_eq_none (by simpa using hi),List.getElem?_eq_none (by omega)];rfl
theorem mW{lt:Nat->Nat->Bool}(n:Nat):Tgd lt id (List.range n):=λp q h1 a _ _=>by
 have hq:q<n:=by simpa using a
 rw[KI (List.getElem?_range (by omega)),KI (List.getElem?_range hq)];exact h1
end
end Go.Sy
namespace Go.Sy
open Go Go.RowKit
structure Srt {α:Type} [Inhabited α] (P:Program) (C:List α->Chunk) (lt:α->α->Bool) (d0:List α) (lf:Nat) (lc:List Value) (sf:Nat) (sc:List Value) (w0:World):Prop where
  body:AA P lf=true
  less:∀(Hs:List Chunk) (w:World) (d:List α) (i j:Nat),List.Perm d d0->i<d0.length->j<d0.length->St w0 (C d::Hs) w->
    Calls P lf ([Value.int .i64 (i:Int),Value.int .i64 (j:Int)]++lc).toArray w (λe w'=>e= .returned (.bool (lt (A d i) (A d j)))/\St w0 (C d::Hs) w')
  swap:∀(Hs:List Chunk) (w:World) (d:List α) (i j:Nat),List.Perm d d0->i<d0.length->j<d0.length->i≠j->St w0 (C d::Hs) w->
    ∃w',(callFunc sf ([Value.int .i64 (i:Int),Value.int .i64 (j:Int)]++sc).toArray).run P w= .ok (.value (.tuple #[])) w'/\St w0 (C (swp d i j)::Hs) w'
section
variable {P:Program} {N:Nat} {w0:World} {H:List Chunk} {L:Fm} {Q:Exit->Act->World->Prop} {o:Oper} {dd:Nat} {K:Act->World->Prop}
theorem gP{f:Nat}{x:Operand}{C4k:List Operand}{vs cs:List Value}{b:Array TypeId}{a:Act}{w:World}(e:Fits a N L)
  (g:o.op= .call ⟨.value x,C4k.toArray,b⟩) (h:ev L x=some (.func (.func f) #[] cs.toArray)) (i:evs L C4k=some vs):(execOp a.eval o).run P w=(callFunc f (vs++cs).toArray).run P w:=by
 unfold execOp;rw[g];have he:(C4k.toArray.map a.eval)=vs.toArray:=by rw[List.map_toArray,e.evs i]
 have c:a.eval x= .func (.func f) #[] cs.toArray:=e.ev h;simp only[resolve,c,Deferred.ofValue,he,Sem.run_bind,Sem.run_pure,Result.andThen_ok,invoke];simp
section
variable {α:Type} [Inhabited α] {C:List α->Chunk} {lt:α->α->Bool} {d0 d:List α} {lf sf:Nat} {lc sc:List Value}
theorem dO(S:Srt P C lt d0 lf lc sf sc w0)(hp:List.Perm d d0){x:Operand}{C4k:List Operand}{b:Array TypeId}{i j:Nat}
  (f:o.op= .call ⟨.value x,C4k.toArray,b⟩) (c:ev L x=some (.func (.func lf) #[] lc.toArray)) (g:evs L C4k=some [Value.int .i64 (i:Int),Value.int .i64 (j:Int)]) (hd:o.dst=some dd) (h:Nat.blt dd N=true)
  (l:i<d0.length) (m:j<d0.length) (k:D N w0 (C d::H) ((dd, .bool (lt (A d i) (A d j)))::L) K):D N w0 (C d::H) L (λa w=>o.wp P a w K Q):=by
 intro a w hf hs;show o.wp P a w K Q;have hb:=S.body;have hc:=S.less H w d i j hp l m hs;have h1:=gP (P:=P) (w:=w) hf f c g;unfold AA at hb
 split at hb
 ·rename_i fn hfn;simp only[Bool.and_eq_true,Bool.not_eq_true'] at hb;have hrun:(execOp a.eval o).run P w= .ok (.enter lf ([Value.int .i64 (i:Int),Value.int .i64 (j:Int)]++lc).toArray) w:=by
   rw[h1];have hbody:fn.body.isNone=false:=by rw[<-Option.not_isSome,hb.2];rfl
   have hnm:¬fn.name= "runtime.NumGoroutine" :=by simpa using hb.1
   have hbn:¬fn.body=none:=by intro e;rw[e] at hbody;cases hbody
   simp only[callFunc,program];simp[Sem.run,hfn,hnm,hbn]
  unfold Oper.wp;rw[hrun,Oper.upon_enter];refine hc.mono λe w' he=>?_
  obtain⟨rfl,c⟩:=he;simp only;rw[hd];exact k _ _ (hf.put h _) c
 ·cases hb
theorem kM(S:Srt P C lt d0 lf lc sf sc w0)(hp:List.Perm d d0){x:Operand}{C4k:List Operand}{b:Array TypeId}{i j:Nat}
  (e:o.op= .call ⟨.value x,C4k.toArray,b⟩) (f:ev L x=some (.func (.func sf) #[] sc.toArray)) (g:evs L C4k=some [Value.int .i64 (i:Int),Value.int .i64 (j:Int)]) (hd:o.dst=some dd) (h:Nat.blt dd N=true)
  (l:i<d0.length) (m:j<d0.length) (c:i≠j) (k:D N w0 (C (swp d i j)::H) ((dd, .tuple #[])::L) K):D N w0 (C d::H) L (λa w=>o.wp P a w K Q):=
 KQ hd h (λa w hf hs=>by
  obtain⟨w',h1,n⟩:=S.swap H w d i j hp l m c hs;exact⟨_,w',(gP (P:=P) (w:=w) hf e f g).trans h1,λa' hf'=>k a' w' hf' n⟩)
theorem GK{β:Type}{C:List β->Chunk}{d:List β}{φ:List β->Prop}{f:Nat}{C4k:List Operand}{vs:List Value}{b:Array TypeId}(hb:AA P f=true)
  (c:o.op= .call ⟨.value (.func f),C4k.toArray,b⟩) (g:evs L C4k=some vs) (hd:o.dst=some dd) (h:Nat.blt dd N=true)
  (hc:∀w,St w0 (C d::H) w->Calls P f vs.toArray w (λe w'=>e= .returned (.tuple #[])/\∃e',φ e'/\St w0 (C e'::H) w'))
  (k:∀e',φ e'->D N w0 (C e'::H) ((dd, .tuple #[])::L) K):D N w0 (C d::H) L (λa w=>o.wp P a w K Q):=
 K7 (σ:=List β) (val:=λ_=> .tuple #[]) (H':=λe'=>C e'::H) (J:=φ) hb c g hd h
  (λw hs=>(hc w hs).mono λ_ _ ⟨he,e',h1,i⟩=>⟨e',he,h1,i⟩) k
end
theorem XW{fn:Func}(a:fn.results= #[])(tmps:Array Value)(w:World):(results fn tmps).run P w= .ok (.tuple #[]) w:=by
 rw[PX,a];simp[Sem.run_pure]
theorem R_0{fn:Func}{R:Ending->World->Prop}(b:fn.results= #[])(h:∀w,St w0 H w->R (.returned (.tuple #[])) w):D N w0 H L (bodyPost P fn R .ret):=
 λa w hf hs=>bodyPost_ret (XW b _ _) hf.dfr (h w hs)
theorem CY{fn:Func}{R:Ending->World->Prop}(b:fn.results= #[])(h:∀w,St w0 H w->R (.returned (.tuple #[])) w):D N w0 H L (bodyPost P fn R .normal):=
 λa w hf hs=>bodyPost_end (XW b _ _) hf.dfr (h w hs)
theorem XX{t b:TypeId}{x:Operand}{n:Nat}(c:P.underlying b=some (.int .u64))(hu:∃u,P.underlying t=some u)(f:o.op= .convert t b x)(g:ev L x=some (.int .i64 (n:Int)))(h:n<=9223372036854775807):C2 P N w0 H L o (.int .u64 (n:Int)):=by
 intro a w hf _;obtain⟨u,hu⟩:=hu;unfold execOp;rw[f];have e:IntKind.u64.wrap (n:Int)=(n:Int):=by
  rw[IntKind.wrap_u64];omega
 simp[convert,hf.ev g,run_underlying c,run_underlying hu,Conv.intToInt,e]
theorem dP{t b:TypeId}{x:Operand}{n:Nat}(c:P.underlying b=some (.int .i64))(hu:∃u,P.underlying t=some u)(e:o.op= .convert t b x)(f:ev L x=some (.int .u64 (n:Int)))(h:n<=9223372036854775807):C2 P N w0 H L o (.int .i64 (n:Int)):=by
 intro a w hf _;obtain⟨u,hu⟩:=hu;unfold execOp;rw[e];simp[convert,hf.ev f,run_underlying c,run_underlying hu,Conv.intToInt,IntWalk.i64_in _ (show-9223372036854775808<=(n:Int)/\(n:Int)<=9223372036854775807 by omega)]
theorem dQ{t c:TypeId}{x y:Operand}{n:Nat}{b:IntKind}(e:o.op= .binOp .shr t x y c)(f:ev L x=some (.int .u64 (n:Int)))(g:ev L y=some (.int b 1))(h:n<=9223372036854775807):C2 P N w0 H L o (.int .u64 ((n/2:Nat):Int)):=by
 intro a w hf _;unfold execOp;rw[e];simp only[hf.ev f,hf.ev g];simp[eqGuard,binOp,shift_shr_any .u64 b (n:Int) 1 (by omega),IntKind.bits]
theorem ZW{t b:TypeId}{x y:Operand}{m n:Nat}(c:o.op= .binOp .mul t x y b)(f:ev L x=some (.int .i64 (m:Int)))(g:ev L y=some (.int .i64 (n:Int)))(h:m*n<=9223372036854775807):C2 P N w0 H L o (.int .i64 ((m*n:Nat):Int)):=by
 intro a w hf _;unfold execOp;rw[c];simp only[hf.ev f,hf.ev g];have e:IntKind.i64.wrap ((m:Int)*(n:Int))=((m*n:Nat):Int):=by
  rw[show(m:Int)*(n:Int)=((m*n:Nat):Int) from by simp];exact IntWalk.i64_in _ (by omega)
 simp[eqGuard,binOp,Op.intArith,e]
end
end Go.Sy
namespace Go.Sy
open Go Go.RowKit
theorem heap_setCell{w:World}{g i:Nat}{v:Value}{cur:Array Value}{t:TypeId}{fz:Nat × Nat}(h:w.heap[g]?=some (.cells cur t fz)):(w.setCell ⟨g,i,none⟩ v).heap[g]?=some (.cells (cur.setIfInBounds i v) t fz):=by
 simp[World.setCell,Array.getElem?_modify,h]
theorem SY{w:World}{g q i:Nat}{v:Value}(h:q≠g):(w.setCell ⟨g,i,none⟩ v).heap[q]?=w.heap[q]?:=by
 simp[World.setCell,Array.getElem?_modify,Ne.symm h]
def ZX(cur:Array Value)(o:Nat):List Value->Array Value
 | []=>cur
 |v::r=>ZX (cur.setIfInBounds o v) (o+1) r
theorem OD:∀(vs:List Value) (cur:Array Value) (o:Nat),(ZX cur o vs).size=cur.size
 | [],_,_=>rfl
 |v::r,cur,o=>by rw[ZX,OD r];simp
theorem UW:∀(vs:List Value) (cur:Array Value) (o q:Nat),o+vs.length<=cur.size->(ZX cur o vs)[q]?=if o<=q/\q<o+vs.length then vs[q-o]? else cur[q]?
 | [],cur,o,q,_=>by rw[if_neg (by simp)];rfl
 | v::r,cur,o,q,h=>by
  simp only[List.length_cons] at h;rw[ZX,UW r _ _ _ (by simp;omega),List.length_cons]
  by_cases e:q=o
  ·subst e;rw[if_neg (by omega),if_pos (by omega),Array.getElem?_setIfInBounds_self];simp;omega
  ·rw[Array.getElem?_setIfInBounds_ne (Ne.symm e)]
   by_cases a:o+1<=q/\q<o+1+r.length
   ·rw[if_pos a,if_pos (by omega),show q-o=(q-(o+1))+1 from by omega,List.getElem?_cons_succ]
   ·rw[if_neg a,if_neg (by omega)]
theorem LJ{g:Nat}{t:TypeId}{fz:Nat × Nat}:∀(vs:List Value) (o:Nat) (cur:Array Value) (w:World),w.heap[g]?=some (.cells cur t fz)->(w.setCells g o vs).heap[g]?=some (.cells (ZX cur o vs) t fz)
 | [],_,_,_,h=>h
 | v::r,o,cur,w,h=>by
  rw[World.setCells,ZX];exact LJ r (o+1) _ _ (heap_setCell h)
theorem IS{g q:Nat}(a:q≠g):∀(vs:List Value) (o:Nat) (w:World),(w.setCells g o vs).heap[q]?=w.heap[q]?
 | [],_,_=>rfl
 |v::r,o,w=>by rw[World.setCells,IS a r,SY a]
theorem NS(g:Nat):∀(vs:List Value) (o:Nat) (w:World),(w.setCells g o vs).os=w.os/\(w.setCells g o vs).tape=w.tape/\(w.setCells g o vs).output=w.output/\(w.setCells g o vs).heap.size=w.heap.size
 | [],_,_=>⟨rfl,rfl,rfl,rfl⟩
 | v::r,o,w=>by
  rw[World.setCells];obtain⟨h1,a,b,c⟩:=NS g r (o+1) (w.setCell ⟨g,o,none⟩ v);exact⟨h1,a,b,c.trans (by simp[World.setCell])⟩
theorem tB{α:Type} [Gd α] [Tid α] [Inhabited α]{P:Program}{w0 w:World}{Hs:List Chunk}{a:Nat}{v:Value}{d:List α}{i j sf:Nat}{gS:Bool}{e:TypeId}{h:TypeInfo}(a0:P.info? e=some h)(hsz:h.size=Gd.n α)
  (p:∀w,(isAgg e).run P w= .ok true w) (hx:∀args W,(callFunc sf args).run P W=((Extern.ReflectliteSwapper.swap gS args).run P W).andThen λv w'=> .ok (.value v) w')
  (c:i<d.length) (s:j<d.length) (a5:St w0 (star (bx a [v]) (ov [v] d)::Hs) w):
  ∃w',(callFunc sf ([Value.int .i64 (i:Int),Value.int .i64 (j:Int)]++ [v,typeHandle P e]).toArray).run P w= .ok (.value (.tuple #[])) w'/\St w0 (star (bx a [v]) (ov [v] (swp d i j))::Hs) w':=by
 obtain⟨fp,⟨f1,f2,hfp,hb,how⟩,hn,hbd,put⟩:=a5.set (k:=0) rfl;subst hfp
 rcases how with ⟨_,h2,_⟩|⟨g,cap,cur,fps,hv,hg,a6,a7,x,a8,hfl,hel⟩
 ·rw[h2] at c;simp at c
 ·simp only[List.cons.injEq,and_true] at hv;subst hv;subst a8;have a9:f1=[a]:=hb.1;subst a9;have hgb:a≠g:=λe=>by
   have:=(List.nodup_append.1 hn).2.2 a (by simp) g (by simp);exact this e
  have hnd:(g::fps.flatten).Nodup:=(List.nodup_append.1 hn).2.1;have hgn:∀q f,fps[q]?=some f->g∉f:=λq f hq hm=>(List.nodup_cons.1 hnd).1 (EG hq hm)
  have blk:∀q,q<d.length->∃X:List Value,(cur.toList.drop (q*Gd.n α)).take (Gd.n α)=X/\X.length=Gd.n α/\(∀u∈X,u.oneCell'=true)/\Gd.ow w X (A d q) (A fps q):=λq hq=>by
   obtain⟨f,hf⟩:=sL (l:=fps) (i:=q) (by omega);have ho:=hel q (A d q) f (OY hq) hf;have b:f=A fps q:=(KI hf).symm;rw[b] at ho;exact⟨_,rfl,JX ho,cells_one ho,ho⟩
  obtain⟨X,eX,lX,oX,wX⟩:=blk i c;obtain⟨Y,eY,lY,oY,wY⟩:=blk j s;have room:∀q,q<d.length->q*Gd.n α+Gd.n α<=cur.size:=λq hq=>by
   rw[x];have:=Nat.mul_le_mul_right (Gd.n α) (show q+1<=cap by omega)
   rwa [Nat.add_mul,Nat.one_mul] at this
  have cell:∀q Z,(cur.toList.drop (q*Gd.n α)).take (Gd.n α)=Z->∀k u,Z[k]?=some u->w.cell? ⟨g,0+q*h.size+k,none⟩=some u:=λq Z hZ k u hu=>by
   rw[Nat.zero_add,hsz,cell_of_heap hg];rw[<-hZ,CF] at hu
   split at hu
   ·simpa using hu
   ·cases hu
  have fr:∀q,w.frozen? ⟨g,q,none⟩=false:=λq=>by simp[World.frozen?,hg]
  have hrun:=Lib.run_swap_cells (P:=P) gS e h a0 p g 0 d.length cap i j c s X Y (lX.trans hsz.symm) (lY.trans hsz.symm) oX oY w (cell i X eX) (cell j Y eY) (λ_ _=>fr _) (λ_ _=>fr _);refine⟨(w.setCells g (0+i*h.size) Y).setCells g (0+j*h.size) X,?_,?_⟩
  ·rw[hx];have:([Value.int .i64 (i:Int),Value.int .i64 (j:Int)]++ [Value.slice (some ⟨g,0,none⟩) d.length cap,typeHandle P e]).toArray= #[.int .i64 (i:Int), .int .i64 (j:Int), .slice (some ⟨g,0,none⟩) d.length cap,typeHandle P e]:=rfl;rw[this,hrun];rfl
  ·simp only[Nat.zero_add,hsz];have aa:=LJ Y (i*Gd.n α) cur w hg;have ab:=LJ X (j*Gd.n α) _ _ aa;have hne:∀q,q≠g->((w.setCells g (i*Gd.n α) Y).setCells g (j*Gd.n α) X).heap[q]?=w.heap[q]?:=λq hq=>by rw[IS hq,IS hq]
   have hfp:=(UT (d:=fps) (i:=i) (j:=j) (by omega) (by omega)).flatten;obtain⟨a1,a2,a3,a4⟩:=NS g Y (i*Gd.n α) w;obtain⟨b1,b2,b3,b4⟩:=NS g X (j*Gd.n α) (w.setCells g (i*Gd.n α) Y);have hcur:∀q,q<d.length->(((ZX (ZX cur (i*Gd.n α) Y) (j*Gd.n α) X).toList.drop (q*Gd.n α)).take (Gd.n α))=if q=j then X else if q=i then Y else(cur.toList.drop (q*Gd.n α)).take (Gd.n α):=λq hq=>by
    have r1:=room i c;have r2:=room j s
    apply List.ext_getElem?
    intro t;rw[CF]
    by_cases ht:t<Gd.n α
    ·rw[if_pos ht,Array.getElem?_toList,UW _ _ _ _ (by rw[OD,lX];exact r2),UW _ _ _ _ (by rw[lY];exact r1),lX,lY]
     by_cases b:q=j
     ·subst b;rw[if_pos (by omega),if_pos rfl,show q*Gd.n α+t-q*Gd.n α=t from by omega]
     ·have ac:¬(j*Gd.n α<=q*Gd.n α+t/\q*Gd.n α+t<j*Gd.n α+Gd.n α):=by
       rcases KR b ht with hb|hb<;>omega
      rw[if_neg ac,if_neg b]
      by_cases m:q=i
      ·subst m;rw[if_pos (by omega),if_pos rfl,show q*Gd.n α+t-q*Gd.n α=t from by omega]
      ·have ad:¬(i*Gd.n α<=q*Gd.n α+t/\q*Gd.n α+t<i*Gd.n α+Gd.n α):=by
        rcases KR m ht with hb|hb<;>omega
       rw[if_neg ad,if_neg m,CF,if_pos ht,Array.getElem?_toList]
    ·rw[if_neg ht]
     split
     ·rw[List.getElem?_eq_none (by omega)]
     ·split
      ·rw[List.getElem?_eq_none (by omega)]
      ·rw[CF,if_neg ht]
   refine put _ (star (bx a [.slice (some ⟨g,0,none⟩) d.length cap]) (ov [.slice (some ⟨g,0,none⟩) d.length cap] (swp d i j))) ([a]++(g::(swp fps i j).flatten)) ⟨b1.trans a1,b2.trans a2,b3.trans a3,by omega,λq hq hnm=>hne q (λe=>hnm (by simp[e]))⟩
    ⟨[a],g::(swp fps i j).flatten,rfl,(bx a _).loc _ _ _ hb (λq hq=>hne q (λe=>by simp at hq;exact hgb (hq.symm.trans e))),?_⟩ ?_ ?_
   ·refine .inr ⟨g,cap,_,swp fps i j,by rw[I2],ab,by rw[I2];exact a6,a7,by rw[OD,OD,x],rfl,by rw[I2,I2,hfl],λq z f hz hf=>?_⟩;have hq:q<d.length:=by have:=lS hz;rwa [I2] at this
    have hzA:=KI hz;have hfA:=KI hf;rw[IH c s] at hzA;rw[IH (by omega) (by omega)] at hfA;rw[hcur q hq];have mv:∀(B:List Value) k,k<d.length->Gd.ow w B (A d k) (A fps k)->Gd.ow ((w.setCells g (i*Gd.n α) Y).setCells g (j*Gd.n α) X) B (A d k) (A fps k):=λB k hk ho=>
     Gd.ow_loc ho (λr hr=>hne r (λe=>hgn k _ (OY (by omega)) (e▸hr)))
    by_cases b:q=j
    ·rw[if_pos b] at hzA hfA⊢;rw[<-hzA,<-hfA];exact mv X i c wX
    ·rw[if_neg b] at hzA hfA⊢
     by_cases m:q=i
     ·rw[if_pos m] at hzA hfA⊢;rw[<-hzA,<-hfA];exact mv Y j s wY
     ·rw[if_neg m] at hzA hfA⊢;obtain⟨B,eB,_,_,wB⟩:=blk q hq;rw[eB,<-hzA,<-hfA];exact mv B q hq wB
   ·refine(List.Perm.nodup_iff ?_).1 hn;exact(hfp.symm.cons g).append_left [a]
   ·intro q hq;have y:q∈ [a]++(g::fps.flatten):=by
     simp only[List.mem_append,List.mem_cons] at hq⊢
     rcases hq with hq|hq|hq
     ·exact .inl hq
     ·exact .inr (.inl hq)
     ·exact .inr (.inr (hfp.mem_iff.1 hq))
    exact⟨.inl y,by have:=(hbd q y).2;omega⟩
section
variable {P:Program} {N:Nat} {w0:World} {H:List Chunk} {L:Fm} {Q:Exit->Act->World->Prop} {o:Oper} {dd:Nat} {K:Act->World->Prop}
theorem ZY{f:Nat}{C4k:List Operand}{vs:List Value}{b:Array TypeId}{a:Act}{w:World}(c:Fits a N L)(e:o.op= .call ⟨.value (.func f),C4k.toArray,b⟩)(g:evs L C4k=some vs):
  (execOp a.eval o).run P w=(callFunc f vs.toArray).run P w:=by
 have:=gP (P:=P) (w:=w) (x:= .func f) (f:=f) (cs:=[]) c e rfl g;simpa using this
theorem A5i{f:Nat}{fn:Func}{x:Operand}{b:Array TypeId}{t e n c:Nat}{i:TypeInfo}{p:Option Addr}(h:P.funcs[f]?=some fn)(j:(fn.name== "runtime.NumGoroutine")=false)(hb:fn.body.isNone=true)(l:Extern.findNext fn=none)
  (q:Extern.find fn=some (λargs=>Extern.ReflectliteValue.unpack (args.getD 0 (.tuple #[])))) (r:P.info? t=some i) (m:i.desc= .slice e)
  (s:o.op= .call ⟨.value (.func f),[x].toArray,b⟩) (u:evs L [x]=some [.iface t (.slice p n c)]) (hd:o.dst=some dd) (v:Nat.blt dd N=true)
  (k:∀g,D N w0 (bx g [.slice p n c]::H) ((dd, .agg #[typeHandle P t, .pointer (some ⟨g,0,none⟩), .int .u64 151])::L) K):D N w0 H L (λa w=>o.wp P a w K Q):=
 KQ hd v (λa w hf hs=>by
  refine⟨_,w.alloc (.cells #[.slice p n c] t),?_,λa' hf'=>k w.heap.size a' _ hf' (YH (cs:=[.slice p n c]) hs rfl)⟩;rw[ZY hf s u,run_callFunc_extern h j hb l q];show((Extern.ReflectliteValue.unpack (.iface t (.slice p n c))).run P w).andThen _=_;rw[Lib.run_valueOf_slice (P:=P) t e i r m p n c w]
  rfl)
theorem A5j{f:Nat}{fn:Func}{x:Operand}{b:Array TypeId}{u v:Value}(c:P.funcs[f]?=some fn)(e:(fn.name== "runtime.NumGoroutine")=false)(hb:fn.body.isNone=true)(g:Extern.findNext fn=none)
  (h:Extern.find fn=some (Extern.ReflectliteSwapper.swapper "internal/reflectlite" (Extern.ReflectliteValue.valueError "Swapper")))
  (i:∀w,(Extern.ReflectliteSwapper.swapper "internal/reflectlite" (Extern.ReflectliteValue.valueError "Swapper") #[u]).run P w= .ok v w)
  (j:o.op= .call ⟨.value (.func f),[x].toArray,b⟩) (k:evs L [x]=some [u]):C2 P N w0 H L o v:=λa w hf _=>by
 rw[ZY hf j k,run_callFunc_extern c e hb g h];show((Extern.ReflectliteSwapper.swapper "internal/reflectlite" (Extern.ReflectliteValue.valueError "Swapper") #[u]).run P w).andThen _=_;rw[i];rfl
theorem A5k{f:Nat}{fn:Func}{x:Operand}{b:Array TypeId}{t e n c g:Nat}{i:TypeInfo}{p:Option Addr}(k:Nat)(h:P.funcs[f]?=some fn)(j:(fn.name== "runtime.NumGoroutine")=false)(hb:fn.body.isNone=true)(l:Extern.findNext fn=none)
  (r:Extern.find fn=some (Extern.ReflectliteValue.method (Extern.ReflectliteValue.valueError "reflectlite.Value.Len" 0) Extern.ReflectliteValue.len)) (s:P.info? t=some i) (m:i.desc= .slice e) (q:P.packed t=false)
  (u:o.op= .call ⟨.value (.func f),[x].toArray,b⟩) (v:evs L [x]=some [.agg #[typeHandle P t, .pointer (some ⟨g,0,none⟩), .int .u64 151]]) (hk:H[k]?=some (bx g [.slice p n c])):C2 P N w0 H L o (.int .i64 (n:Int)):=λa w hf hs=>by
 rw[ZY hf u v,run_callFunc_extern h j hb l r];have hc:w.cell? ⟨g,0,none⟩=some (.slice p n c):=JU hk rfl w hs;have:=Lib.run_valueLen_slice (P:=P) t e i s m q ⟨g,0,none⟩ p n c w hc;show((Extern.ReflectliteValue.method (Extern.ReflectliteValue.valueError "reflectlite.Value.Len" 0) Extern.ReflectliteValue.len #[.agg #[typeHandle P t, .pointer (some ⟨g,0,none⟩), .int .u64 151]]).run P w).andThen _=_;rw[this];rfl
theorem A0y{t:TypeId}{x:Operand}{v:Value}{c:Nat × Nat × Nat}(b:AT P t=some c)(e:o.op= .makeInterface t x)(f:ev L x=some v):C2 P N w0 H L o (.iface t v):=λa w hf _=>by
 unfold AT at b
 split at b
 ·rename_i e' he;unfold execOp;rw[e];simp[Instr.makeInterface,hf.ev f,run_underlying he]
 ·cases b
end
end Go.Sy
