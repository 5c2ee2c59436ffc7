/-
  Rows that are sorted by exchanges: what the parts of a stable sort leave, as plain facts on lists.
  Conditions: those that each theorem states.
-/
import Derived.Test.YtbnpgdcpbmaebaaGreatDoorSym
import Derived.Test.YtbnpgdcpbmaebaaGreatDoorBase
import Derived.Test.YtbnpgdcpbmaebaaGreatDoorOwn2
import Derived.Lib.ReflectliteSwap
import Derived.Laws.Externs
namespace Go.Sy
section
variable {α:Type} [Inhabited α]
def A(d:List α)(i:Nat):α:=(d[i]?).getD default
def swp(d:List α)(i j:Nat):List α:=(d.set i (A d j)).set j (A d i)
theorem I2(d:List α)(i j:Nat):(swp d i j).length=d.length:=by simp[swp]
theorem OY{d:List α}{i:Nat}(h:i<d.length):d[i]?=some (A d i):=by simp[A,h]
theorem A0w{d:List α}{i k:Nat}{x:α}(h:i<d.length):A (d.set i x) k=if k=i then x else A d k:=by
 unfold A;rw[List.getElem?_set]
 by_cases e:i=k
 ·subst e;simp[h]
 ·rw[if_neg e,if_neg (λh=>e h.symm)]
theorem IH{d:List α}{i j k:Nat}(a:i<d.length)(b:j<d.length):A (swp d i j) k=if k=j then A d i else if k=i then A d j else A d k:=by
 unfold swp;rw[A0w (by simpa using b)]
 split
 ·rfl
 ·rw[A0w a]
theorem A0x{d e:List α}(hl:d.length=e.length)(h:∀i,i<d.length->A d i=A e i):d=e:=by
 refine List.ext_getElem? (λi=>?_)
 rcases Nat.lt_or_ge i d.length with hi|hi
 ·rw[OY hi,OY (by omega),h i hi]
 ·rw[List.getElem?_eq_none hi,List.getElem?_eq_none (by omega)]
theorem OZ{β:Type}{x y:β}:∀{l:List β} {j:Nat},l[j]?=some y->List.Perm (y::l.set j x) (x::l)
 | [],_,h=>by simp at h
 | z::l,0,h=>by
  simp only[List.getElem?_cons_zero,Option.some.injEq] at h;subst h;exact List.Perm.swap _ _ _
 | z::l,j+1,h=>by
  simp only[List.getElem?_cons_succ] at h;have ih:=OZ (x:=x) h;simp only[List.set_cons_succ];exact(List.Perm.swap z y _).trans ((ih.cons z).trans (List.Perm.swap x z _))
theorem NQ:∀{d:List α} {i j:Nat},i<j->j<d.length->List.Perm (swp d i j) d
 | [],_,_,_,h=>by simp at h
 | z::d,0,j+1,_,h=>by
  have hj:j<d.length:=by simpa using h
  unfold swp;have a:A (z::d) (j+1)=A d j:=by simp[A]
  have b:A (z::d) 0=z:=by simp[A]
  rw[a,b];simp only[List.set_cons_zero,List.set_cons_succ];exact OZ (OY hj)
 | z::d,i+1,j+1,hij,h=>by
  have ih:=NQ (d:=d) (i:=i) (j:=j) (by omega) (by simpa using h);unfold swp at ih⊢;have a:A (z::d) (j+1)=A d j:=by simp[A]
  have b:A (z::d) (i+1)=A d i:=by simp[A]
  rw[a,b];simp only[List.set_cons_succ];exact ih.cons z
theorem dC{d:List α}{i j:Nat}(a:i<d.length)(b:j<d.length):swp d i j=swp d j i:=by
 refine A0x (by simp[I2]) (λk _=>?_);rw[IH a b,IH b a]
 by_cases h1:k=j<;>by_cases c:k=i<;>simp[h1,c]<;>(try subst h1)<;>(try simp_all)
theorem UT{d:List α}{i j:Nat}(a:i<d.length)(b:j<d.length):List.Perm (swp d i j) d:=by
 rcases Nat.lt_trichotomy i j with h|h|h
 ·exact NQ h b
 ·subst h;have:swp d i i=d:=A0x (I2 _ _ _) (λk _=>by rw[IH a a];split<;>simp_all);rw[this]
 ·rw[dC a b];exact NQ h a
structure Ordr (lt:α->α->Bool):Prop where
  asym:∀x y,lt x y=true->lt y x=false
  trans:∀x y z,lt y x=false->lt z y=false->lt z x=false
variable {lt:α->α->Bool}
theorem Ordr.refl{β:Type}{lt:β->β->Bool}(h:Ordr lt)(x:β):lt x x=false:=by
 cases e:lt x x with
 |false=>rfl
 |true=>have:=h.asym x x e;rw[e] at this;exact this
structure Chg (d e:List α) (a b:Nat):Prop where
  len:e.length=d.length
  perm:List.Perm e d
  out:∀i,(i<a\/b<=i)->A e i=A d i
  mem:∀i,a<=i->i<b->∃j,a<=j/\j<b/\A e i=A d j
theorem Chg.refl(d:List α)(a b:Nat):Chg d d a b:=⟨rfl,List.Perm.refl _,λ_ _=>rfl,λi h1 c=>⟨i,h1,c,rfl⟩⟩
theorem Chg.trans{d e f:List α}{a b:Nat}(h:Chg d e a b)(k:Chg e f a b):Chg d f a b:=
 ⟨k.len.trans h.len,k.perm.trans h.perm,λi hi=>(k.out i hi).trans (h.out i hi),λi h1 c=>by
  obtain⟨j,g,l,n⟩:=k.mem i h1 c;obtain⟨m,p,q,r⟩:=h.mem j g l;exact⟨m,p,q,n.trans r⟩⟩
theorem Chg.mono{d e:List α}{a b c f:Nat}(h:Chg d e a b)(l:c<=a)(hb:b<=f):Chg d e c f:=
 ⟨h.len,h.perm,λi hi=>h.out i (by omega),λi h1 g=>by
  by_cases hc:a<=i/\i<b
  ·obtain⟨j,m,n,k⟩:=h.mem i hc.1 hc.2;exact⟨j,by omega,by omega,k⟩
  ·exact⟨i,h1,g,h.out i (by omega)⟩⟩
theorem Chg.swp{d:List α}{i j a b:Nat}(e:a<=i/\i<b)(f:a<=j/\j<b)(hb:b<=d.length):Chg d (swp d i j) a b:=by
 have h1:i<d.length:=by omega
 have c:j<d.length:=by omega
 refine⟨I2 _ _ _,UT h1 c,λk hk=>?_,λk g h=>?_⟩
 ·rw[IH h1 c,if_neg (by omega),if_neg (by omega)]
 ·rw[IH h1 c]
  split
  ·exact⟨i,e.1,e.2,rfl⟩
  ·split
   ·exact⟨j,f.1,f.2,rfl⟩
   ·exact⟨k,g,h,rfl⟩
structure Low (lt:α->α->Bool) (d:List α) (a m b i j:Nat):Prop where
  lo:∀k,m<=k->k<i->lt (A d k) (A d a)=true
  hi:∀k,j<=k->k<b->lt (A d k) (A d a)=false
structure Up (d e:List α) (a k b:Nat):Prop where
  chg:Chg d e a b
  lo:∀p,a<=p->p<k->A e p=A d (p+1)
  at_:A e k=A d a
  hi:∀p,k<p->A e p=A d p
structure Hgh (lt:α->α->Bool) (d:List α) (a m i j:Nat):Prop where
  lo:∀k,a<=k->k<i->lt (A d m) (A d k)=false
  hi:∀k,j<=k->k<m->lt (A d m) (A d k)=true
structure Dwn (d e:List α) (a k m:Nat):Prop where
  chg:Chg d e a (m+1)
  lo:∀p,p<k->A e p=A d p
  at_:A e k=A d m
  mid:∀p,k<p->p<=m->A e p=A d (p-1)
  hi:∀p,m<p->A e p=A d p
structure Sea (lt:α->α->Bool) (d:List α) (s0 r0 n s r:Nat):Prop where
  lo:∀c,s0<=c->c<s->lt (A d (n-1-c)) (A d c)=false
  hi:∀c,r<=c->c<r0->lt (A d (n-1-c)) (A d c)=true
end
end Go.Sy
namespace Go.Sy
section
variable {α:Type} [Inhabited α] {lt:α->α->Bool}
end
section
variable {α β:Type}
def LI(lt:α->α->Bool)(x:α):List α->List α
 | []=> [x]
 |y::s=>if lt x y=true then x::y::s else y::LI lt x s
def MR(lt:α->α->Bool)(l:List α):List α:=l.foldl (λs x=>LI lt x s) []
end
end Go.Sy
namespace Go.Sy
open Go Go.RowKit
structure Srt {α:Type} [Inhabited α] (P:Program) (C:List α->Chunk) (lt:α->α->Bool) (d0:List α) (lf:Nat) (lc:List Value) (sf:Nat) (sc:List Value) (w0:World):Prop where
  body:AA P lf=true
  less:∀(Hs:List Chunk) (w:World) (d:List α) (i j:Nat),List.Perm d d0->i<d0.length->j<d0.length->St w0 (C d::Hs) w->
    Calls P lf ([Value.int .i64 (i:Int),Value.int .i64 (j:Int)]++lc).toArray w (λe w'=>e= .returned (.bool (lt (A d i) (A d j)))/\St w0 (C d::Hs) w')
  swap:∀(Hs:List Chunk) (w:World) (d:List α) (i j:Nat),List.Perm d d0->i<d0.length->j<d0.length->i≠j->St w0 (C d::Hs) w->
    ∃w',(callFunc sf ([Value.int .i64 (i:Int),Value.int .i64 (j:Int)]++sc).toArray).run P w= .ok (.value (.tuple #[])) w'/\St w0 (C (swp d i j)::Hs) w'
section
variable {P:Program} {N:Nat} {w0:World} {H:List Chunk} {L:Fm} {Q:Exit->Act->World->Prop} {o:Oper} {dd:Nat} {K:Act->World->Prop}
section
variable {α:Type} [Inhabited α] {C:List α->Chunk} {lt:α->α->Bool} {d0 d:List α} {lf sf:Nat} {lc sc:List Value}
end
end
end Go.Sy
namespace Go.Sy
open Go Go.RowKit
section
variable {P:Program} {N:Nat} {w0:World} {H:List Chunk} {L:Fm} {Q:Exit->Act->World->Prop} {o:Oper} {dd:Nat} {K:Act->World->Prop}
end
end Go.Sy
