/-
  Rows that are sorted by exchanges: what the parts of a stable sort leave, as plain facts on lists.
  Conditions: those that each theorem states.
-/
import Derived.Test.YtmjmglkogcomaaaGreatDoorEv
import Derived.Lib.ReflectliteSwap
import Derived.Laws.Externs
namespace Go.Sy
section
variable {α:Type} [Inhabited α]
def A(d:List α)(i:Nat):α:=(d[i]?).getD default
def swp(d:List α)(i j:Nat):List α:=(d.set i (A d j)).set j (A d i)
theorem I2(d:List α)(i j:Nat):(swp d i j).length=d.length:=by simp[swp]
theorem OY{d:List α}{i:Nat}(h:i<d.length):d[i]?=some (A d i):=by simp[A,h]
theorem A0w{d:List α}{i k:Nat}{x:α}(h:i<d.length):A (d.set i x) k=if k=i then x else A d k:=by
 unfold A;rw[List.getElem?_set]
 by_cases e:i=k
 ·subst e;simp[h]
 ·rw[if_neg e,if_neg (λh=>e h.symm)]
theorem IH{d:List α}{i j k:Nat}(a:i<d.length)(b:j<d.length):A (swp d i j) k=if k=j then A d i else if k=i then A d j else A d k:=by
 unfold swp;rw[A0w (by simpa using b)]
 split
 ·rfl
 ·rw[A0w a]
theorem A0x{d e:List α}(hl:d.length=e.length)(h:∀i,i<d.length->A d i=A e i):d=e:=by
 refine List.ext_getElem? (λi=>?_)
 rcases Nat.lt_or_ge i d.length with a|a
 ·rw[OY a,OY (by omega),h i a]
 ·rw[List.getElem?_eq_none a,List.getElem?_eq_none (by omega)]
theorem OZ{β:Type}{x y:β}:∀{l:List β} {j:Nat},l[j]?=some y->List.Perm (y::l.set j x) (x::l)
 | [],_,h=>by simp at h
 | z::l,0,h=>by
  simp only[List.getElem?_cons_zero,Option.some.injEq] at h;subst h;exact List.Perm.swap _ _ _
 | z::l,j+1,h=>by
  simp only[List.getElem?_cons_succ] at h;have a:=OZ (x:=x) h;simp only[List.set_cons_succ];exact(List.Perm.swap z y _).trans ((a.cons z).trans (List.Perm.swap x z _))
theorem NQ:∀{d:List α} {i j:Nat},i<j->j<d.length->List.Perm (swp d i j) d
 | [],_,_,_,h=>by simp at h
 | z::d,0,j+1,_,h=>by
  have e:j<d.length:=by simpa using h
  unfold swp;have a:A (z::d) (j+1)=A d j:=by simp[A]
  have b:A (z::d) 0=z:=by simp[A]
  rw[a,b];simp only[List.set_cons_zero,List.set_cons_succ];exact OZ (OY e)
 | z::d,i+1,j+1,hij,h=>by
  have c:=NQ (d:=d) (i:=i) (j:=j) (by omega) (by simpa using h);unfold swp at c⊢;have a:A (z::d) (j+1)=A d j:=by simp[A]
  have b:A (z::d) (i+1)=A d i:=by simp[A]
  rw[a,b];simp only[List.set_cons_succ];exact c.cons z
theorem dC{d:List α}{i j:Nat}(a:i<d.length)(b:j<d.length):swp d i j=swp d j i:=by
 refine A0x (by simp[I2]) (λk _=>?_);rw[IH a b,IH b a]
 by_cases h1:k=j<;>by_cases c:k=i<;>simp[h1,c]<;>(try subst h1)<;>(try simp_all)
theorem UT{d:List α}{i j:Nat}(a:i<d.length)(b:j<d.length):List.Perm (swp d i j) d:=by
 rcases Nat.lt_trichotomy i j with h|h|h
 ·exact NQ h b
 ·subst h;have:swp d i i=d:=A0x (I2 _ _ _) (λk _=>by rw[IH a a];split<;>simp_all);rw[this]
 ·rw[dC a b];exact NQ h a
structure Ordr (lt:α->α->Bool):Prop where
  asym:∀x y,lt x y=true->lt y x=false
  trans:∀x y z,lt y x=false->lt z y=false->lt z x=false
variable {lt:α->α->Bool}
theorem Ordr.refl{β:Type}{lt:β->β->Bool}(h:Ordr lt)(x:β):lt x x=false:=by
 cases e:lt x x with
 |false=>rfl
 |true=>have:=h.asym x x e;rw[e] at this;exact this
structure Chg (d e:List α) (a b:Nat):Prop where
  len:e.length=d.length
  perm:List.Perm e d
  out:∀i,(i<a\/b<=i)->A e i=A d i
  mem:∀i,a<=i->i<b->∃j,a<=j/\j<b/\A e i=A d j
theorem Chg.refl(d:List α)(a b:Nat):Chg d d a b:=⟨rfl,List.Perm.refl _,λ_ _=>rfl,λi h1 c=>⟨i,h1,c,rfl⟩⟩
theorem Chg.trans{d e f:List α}{a b:Nat}(h:Chg d e a b)(k:Chg e f a b):Chg d f a b:=
 ⟨k.len.trans h.len,k.perm.trans h.perm,λi c=>(k.out i c).trans (h.out i c),λi h1 g=>by
  obtain⟨j,l,n,p⟩:=k.mem i h1 g;obtain⟨m,q,r,s⟩:=h.mem j l n;exact⟨m,q,r,p.trans s⟩⟩
theorem Chg.mono{d e:List α}{a b c f:Nat}(h:Chg d e a b)(l:c<=a)(hb:b<=f):Chg d e c f:=
 ⟨h.len,h.perm,λi p=>h.out i (by omega),λi h1 g=>by
  by_cases hc:a<=i/\i<b
  ·obtain⟨j,m,n,k⟩:=h.mem i hc.1 hc.2;exact⟨j,by omega,by omega,k⟩
  ·exact⟨i,h1,g,h.out i (by omega)⟩⟩
theorem Chg.swp{d:List α}{i j a b:Nat}(e:a<=i/\i<b)(f:a<=j/\j<b)(hb:b<=d.length):Chg d (swp d i j) a b:=by
 have h1:i<d.length:=by omega
 have c:j<d.length:=by omega
 refine⟨I2 _ _ _,UT h1 c,λk l=>?_,λk g h=>?_⟩
 ·rw[IH h1 c,if_neg (by omega),if_neg (by omega)]
 ·rw[IH h1 c]
  split
  ·exact⟨i,e.1,e.2,rfl⟩
  ·split
   ·exact⟨j,f.1,f.2,rfl⟩
   ·exact⟨k,g,h,rfl⟩
structure Low (lt:α->α->Bool) (d:List α) (a m b i j:Nat):Prop where
  lo:∀k,m<=k->k<i->lt (A d k) (A d a)=true
  hi:∀k,j<=k->k<b->lt (A d k) (A d a)=false
structure Up (d e:List α) (a k b:Nat):Prop where
  chg:Chg d e a b
  lo:∀p,a<=p->p<k->A e p=A d (p+1)
  at_:A e k=A d a
  hi:∀p,k<p->A e p=A d p
structure Hgh (lt:α->α->Bool) (d:List α) (a m i j:Nat):Prop where
  lo:∀k,a<=k->k<i->lt (A d m) (A d k)=false
  hi:∀k,j<=k->k<m->lt (A d m) (A d k)=true
structure Dwn (d e:List α) (a k m:Nat):Prop where
  chg:Chg d e a (m+1)
  lo:∀p,p<k->A e p=A d p
  at_:A e k=A d m
  mid:∀p,k<p->p<=m->A e p=A d (p-1)
  hi:∀p,m<p->A e p=A d p
structure Sea (lt:α->α->Bool) (d:List α) (s0 r0 n s r:Nat):Prop where
  lo:∀c,s0<=c->c<s->lt (A d (n-1-c)) (A d c)=false
  hi:∀c,r<=c->c<r0->lt (A d (n-1-c)) (A d c)=true
end
end Go.Sy
namespace Go.Sy
section
variable {α:Type} [Inhabited α] {lt:α->α->Bool}
end
section
variable {α β:Type}
def LI(lt:α->α->Bool)(x:α):List α->List α
 | []=> [x]
 |y::s=>if lt x y=true then x::y::s else y::LI lt x s
def MR(lt:α->α->Bool)(l:List α):List α:=l.foldl (λs x=>LI lt x s) []
theorem kG{lt:α->α->Bool}{l:List α}{k:Nat}{x:α}(h:l[k]?=some x):LI lt x (MR lt (l.take k))=MR lt (l.take (k+1)):=by
 unfold MR;rw[A1 h,List.foldl_append];rfl
theorem LV(lt:α->α->Bool)(x:α):∀s:List α,List.Perm (LI lt x s) (x::s)
 | []=>List.Perm.refl _
 | y::s=>by
  unfold LI
  split
  ·exact List.Perm.refl _
  ·exact((LV lt x s).cons y).trans (List.Perm.swap x y s)
theorem UU(lt:α->α->Bool):∀(l s:List α),List.Perm (l.foldl (λs x=>LI lt x s) s) (l++s)
 | [],s=>List.Perm.refl _
 | x::l,s=>by
  simp only[List.foldl_cons,List.cons_append];exact((UU lt l _).trans ((LV lt x s).append_left l)).trans List.perm_middle
theorem MH(lt:α->α->Bool)(l:List α):List.Perm (MR lt l) l:=by
 have:=UU lt l [];simpa [MR] using this
theorem XT(lt:α->α->Bool)(l:List α):(MR lt l).length=l.length:=(MH lt l).length_eq
abbrev Pw(lt:α->α->Bool)(s:List α):Prop:=s.Pairwise (λx y=>lt y x=false)
theorem kH{lt:α->α->Bool}(asym:∀x y,lt x y=true->lt y x=false)(trans:∀x y z,lt y x=false->lt z y=false->lt z x=false)(x:α):∀{s:List α},Pw lt s->Pw lt (LI lt x s)
 | [],_=>List.pairwise_singleton _ _
 | y::s,h=>by
  have b:=List.pairwise_cons.1 h;unfold LI
  split
  ·rename_i hx;refine List.pairwise_cons.2 ⟨λz a=>?_,h⟩
   rcases List.mem_cons.1 a with rfl|a
   ·exact asym _ _ hx
   ·exact trans _ _ _ (asym _ _ hx) (b.1 z a)
  ·rename_i hx;refine List.pairwise_cons.2 ⟨λz a=>?_,kH asym trans x b.2⟩
   rcases List.mem_cons.1 ((LV lt x s).mem_iff.1 a) with rfl|a
   ·simpa using hx
   ·exact b.1 z a
theorem dJ{lt:α->α->Bool}(asym:∀x y,lt x y=true->lt y x=false)(trans:∀x y z,lt y x=false->lt z y=false->lt z x=false):∀(l:List α) {s:List α},Pw lt s->Pw lt (l.foldl (λs x=>LI lt x s) s)
 | [],_,h=>h
 |x::l,_,h=>by simp only[List.foldl_cons];exact dJ asym trans l (kH asym trans x h)
theorem UV{lt:α->α->Bool}(asym:∀x y,lt x y=true->lt y x=false)(trans:∀x y z,lt y x=false->lt z y=false->lt z x=false)(l:List α):Pw lt (MR lt l):=dJ asym trans l List.Pairwise.nil
theorem kI{lt:α->α->Bool}{x:α}:∀{s:List α} {k:Nat},(∀i,i<k->∀y,s[i]?=some y->lt x y=false)->(∀y,s[k]?=some y->lt x y=true)->k<=s.length->s.take k++x::s.drop k=LI lt x s
 | [],0,_,_,_=>rfl
 | [],k+1,_,_,h=>by simp at h
 | y::s,0,_,h,_=>by
  have:=h y rfl;simp[LI,this]
 | y::s,k+1,h1,b,c=>by
  have h0:=h1 0 (by omega) y rfl;unfold LI;rw[h0];simp only[List.take_succ_cons,List.drop_succ_cons,List.cons_append,Bool.false_eq_true,if_false];rw[kI (λi e z a=>h1 (i+1) (by omega) z (by simpa using a)) (λz a=>b z (by simpa using a)) (by simpa using c)]
def IF(s:List α)(x:α)(k:Nat):List α:=s.take k++(s[k]?).getD x::s.drop k
theorem kJ{s:List α}{x:α}{k:Nat}(hk:k<=s.length):(IF s x k).length=s.length+1:=by
 unfold IF;simp only[List.length_append,List.length_take,List.length_cons,List.length_drop];omega
theorem XU(s:List α)(x:α):s++ [x]=IF s x s.length:=by unfold IF;simp
theorem ZV{s:List α}{x:α}{k i:Nat}(hk:k<=s.length)(a:i<k):(IF s x k)[i]?=s[i]?:=by
 unfold IF;rw[List.getElem?_append_left (by rw[List.length_take];omega),List.getElem?_take,if_pos a]
theorem dK{s:List α}{x y:α}{k:Nat}(hk:k<=s.length)(h0:0<k)(a:(IF s x k)[k-1]?=some y):(IF s x k).set k y=IF s x (k-1):=by
 rw[ZV hk (by omega)] at a;obtain⟨j,rfl⟩:∃j,k=j+1:=⟨k-1,by omega⟩;rw[show j+1-1=j from by omega] at a⊢;unfold IF;rw[a,Option.getD_some];have h1:(s.take (j+1)).length=j+1:=by rw[List.length_take];omega
 rw[List.set_append_right _ _ (by omega),h1,Nat.sub_self,List.set_cons_zero,A1 a,List.append_assoc];have b:j<s.length:=by omega
 have:s[j]=y:=by rw[List.getElem?_eq_getElem b] at a;exact Option.some.inj a
 rw[List.drop_eq_getElem_cons b,this];rfl
theorem yE{s:List α}{x:α}{k:Nat}(hk:k<=s.length):(IF s x k).set k x=s.take k++x::s.drop k:=by
 unfold IF;have h1:(s.take k).length=k:=by rw[List.length_take];omega
 rw[List.set_append_right _ _ (by omega),h1,Nat.sub_self,List.set_cons_zero]
theorem tA{p:α->Prop}{s:List α}{x y:α}{k:Nat}(hk:k<=s.length/\0<k)(b:∀q,k<=q->∀z,s[q]?=some z->p z)(a:(IF s x k)[k-1]?=some y)(hp:p y):∀q,k-1<=q->∀z,s[q]?=some z->p z:=by
 intro q hq z hz
 by_cases e:q=k-1
 ·subst e;rw[ZV hk.1 (by omega),hz] at a
  cases a;exact hp
 ·exact b q (by omega) z hz
theorem kK{lt:α->α->Bool}(asym:∀x y,lt x y=true->lt y x=false)(trans:∀x y z,lt y x=false->lt z y=false->lt z x=false){s:List α}{x:α}{k:Nat}(f:Pw lt s)(hk:k<=s.length)
  (g:∀i,k<=i->∀y,s[i]?=some y->lt x y=true) (j:k=0\/∃y,(IF s x k)[k-1]?=some y/\lt x y=false):(IF s x k).set k x=LI lt x s:=by
 rw[yE hk];refine kI (λi h y a=>?_) (λy a=>g k (Nat.le_refl _) y a) hk
 rcases j with rfl|⟨z,b,hl⟩
 ·omega
 ·rw[ZV hk (by omega)] at b
  by_cases e:i=k-1
  ·subst e;rw[b] at a;cases a;exact hl
  ·have h1:i<s.length:=by omega
   have c:k-1<s.length:=by omega
   rw[List.getElem?_eq_getElem h1] at a;rw[List.getElem?_eq_getElem c] at b
   cases a;cases b
   exact trans _ _ _ ((List.pairwise_iff_getElem.1 f) i (k-1) h1 c (by omega)) hl
end
end Go.Sy
namespace Go.Sy
open Go Go.RowKit
structure Srt {α:Type} [Inhabited α] (P:Program) (C:List α->Chunk) (lt:α->α->Bool) (d0:List α) (lf:Nat) (lc:List Value) (sf:Nat) (sc:List Value) (w0:World):Prop where
  body:AA P lf=true
  less:∀(Hs:List Chunk) (w:World) (d:List α) (i j:Nat),List.Perm d d0->i<d0.length->j<d0.length->St w0 (C d::Hs) w->
    Calls P lf ([Value.int .i64 (i:Int),Value.int .i64 (j:Int)]++lc).toArray w (λe w'=>e= .returned (.bool (lt (A d i) (A d j)))/\St w0 (C d::Hs) w')
  swap:∀(Hs:List Chunk) (w:World) (d:List α) (i j:Nat),List.Perm d d0->i<d0.length->j<d0.length->i≠j->St w0 (C d::Hs) w->
    ∃w',(callFunc sf ([Value.int .i64 (i:Int),Value.int .i64 (j:Int)]++sc).toArray).run P w= .ok (.value (.tuple #[])) w'/\St w0 (C (swp d i j)::Hs) w'
section
variable {P:Program} {N:Nat} {w0:World} {H:List Chunk} {L:Fm} {Q:Exit->Act->World->Prop} {o:Oper} {dd:Nat} {K:Act->World->Prop}
section
variable {α:Type} [Inhabited α] {C:List α->Chunk} {lt:α->α->Bool} {d0 d:List α} {lf sf:Nat} {lc sc:List Value}
end
end
end Go.Sy
namespace Go.Sy
open Go Go.RowKit
section
variable {P:Program} {N:Nat} {w0:World} {H:List Chunk} {L:Fm} {Q:Exit->Act->World->Prop} {o:Oper} {dd:Nat} {K:Act->World->Prop}
end
end Go.Sy
