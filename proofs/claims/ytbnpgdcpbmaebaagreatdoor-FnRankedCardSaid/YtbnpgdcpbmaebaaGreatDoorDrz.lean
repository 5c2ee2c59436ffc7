/-
  What is drawn: facts put into a list.
  Conditions: those that each theorem states.
-/
import Derived.Test.YtbnpgdcpbmaebaaGreatDoorNum
namespace Go.Sy
open Go
theorem B9y{α:Type}{p:α->Bool}{l:List α}{y:α}(h:y∈l)(hd:l.all p=true):p y=true:=List.all_eq_true.1 hd y h
theorem B6D{l:List ByteArray}{y:ByteArray}{n:Nat}(h:y∈l)(hd:l.all (λx=>decide (x.size<=n))=true):y.size<=n:=of_decide_eq_true (B9y (p:=λx=>decide (x.size<=n)) h hd)
def pfS(f:Fact)(p:List Fact × Bool)(x:Fact):List Fact × Bool:=if (!p.2&&decide (0<=HS x f))=true then((if 0<HS x f then p.1++ [f] else p.1)++ [x],true) else(p.1++ [x],p.2)
def pfK(f:Fact)(l:List Fact)(k:Nat):List Fact × Bool:=(l.take k).foldl (pfS f) ([],false)
def B5M(f:Fact)(l:List Fact):List Fact:=if (pfK f l l.length).2=true then(pfK f l l.length).1 else(pfK f l l.length).1++ [f]
theorem C0l(f:Fact)(l:List Fact):[]=(pfK f l 0).1:=rfl
theorem B8D{f:Fact}{l:List Fact}{k:Nat}{x:Fact}(h:l[k]?=some x):pfK f l (k+1)=pfS f (pfK f l k) x:=by
 unfold pfK;rw[A1 h,List.foldl_append];rfl
section
variable {f x:Fact} {l:List Fact} {k:Nat} {dn:Bool}
theorem B7Z(h:l[k]?=some x)(hd:dn=(pfK f l k).2)(h0:dn=false)(h1:0<=HS x f)(a:0<HS x f):(pfK f l k).1++ [f]++ [x]=(pfK f l (k+1)).1/\true=(pfK f l (k+1)).2:=by
 rw[B8D h];simp[pfS,<-hd,h0,h1,a]
theorem B7a(h:l[k]?=some x)(hd:dn=(pfK f l k).2)(h0:dn=false)(h1:0<=HS x f)(a:¬0<HS x f):(pfK f l k).1++ [x]=(pfK f l (k+1)).1/\true=(pfK f l (k+1)).2:=by
 rw[B8D h];simp[pfS,<-hd,h0,h1,a]
theorem B7b(h:l[k]?=some x)(hd:dn=(pfK f l k).2)(h1:¬0<=HS x f):(pfK f l k).1++ [x]=(pfK f l (k+1)).1/\dn=(pfK f l (k+1)).2:=by
 rw[B8D h];have:(pfS f (pfK f l k) x)=((pfK f l k).1++ [x],(pfK f l k).2):=by unfold pfS;rw[decide_eq_false h1];simp
 rw[this];exact⟨rfl,hd⟩
theorem B7c(h:l[k]?=some x)(hd:dn=(pfK f l k).2)(h0:dn=true):(pfK f l k).1++ [x]=(pfK f l (k+1)).1/\dn=(pfK f l (k+1)).2:=by
 rw[B8D h];have:(pfS f (pfK f l k) x)=((pfK f l k).1++ [x],(pfK f l k).2):=by unfold pfS;rw[<-hd,h0];simp
 rw[this];exact⟨rfl,hd⟩
theorem B8r(h1:k<=l.length)(a:l.length<=k)(hd:(pfK f l k).2=true):(pfK f l k).1=B5M f l:=by
 have e:k=l.length:=by omega
 subst e;simp[B5M,hd]
theorem B8s(h1:k<=l.length)(a:l.length<=k)(hd:(pfK f l k).2=false):(pfK f l k).1++ [f]=B5M f l:=by
 have e:k=l.length:=by omega
 subst e;simp[B5M,hd]
end
theorem pfL(f:Fact):∀(l:List Fact) (p:List Fact × Bool),(l.foldl (pfS f) p).1.length<=p.1.length+l.length+(if p.2=true then 0 else 1)/\((l.foldl (pfS f) p).2=false->(l.foldl (pfS f) p).1.length=p.1.length+l.length)/\(p.2=true->(l.foldl (pfS f) p).2=true)
 | [],p=>by simp
 | x::l,p=>by
  have h:=pfL f l (pfS f p x);have h0:(pfS f p x).1.length<=p.1.length+1+(if p.2=true then 0 else if (pfS f p x).2=true then 1 else 0)/\((pfS f p x).2=false->(pfS f p x).1.length=p.1.length+1)/\(p.2=true->(pfS f p x).2=true):=by
   obtain⟨a,b⟩:=p;unfold pfS
   cases b with
   |true=>simp
   | false=>
    by_cases h1:0<=HS x f
    ·by_cases c:0<HS x f<;>simp[h1,c]
    ·simp[h1]
  rw[List.foldl_cons,List.length_cons];obtain⟨h1,c,d⟩:=h;obtain⟨g1,g2,g3⟩:=h0;refine⟨?_,λhf=>?_,λhp=>d (g3 hp)⟩
  ·cases hb:p.2 with
   | true=>
    have:=g3 hb;rw[hb] at g1;rw[this] at h1;simp at g1 h1⊢;omega
   | false=>
    rw[hb] at g1
    cases hc:(pfS f p x).2 with
    |true=>rw[hc] at g1 h1;simp at g1 h1⊢;omega
    |false=>rw[hc] at g1 h1;simp at g1 h1⊢;omega
  ·have hc:(pfS f p x).2=false:=by
    cases hc:(pfS f p x).2 with
    |true=>rw[d hc] at hf;cases hf
    |false=>rfl
   have:=c hf;have:=g2 hc;omega
theorem B8E(f:Fact)(l:List Fact)(k:Nat):(pfK f l k).1.length<=k+1/\((pfK f l k).2=false->(pfK f l k).1.length<=k):=by
 have h:=pfL f (l.take k) ([],false);have b:(l.take k).length<=k:=by rw[List.length_take];omega
 obtain⟨h1,a,_⟩:=h;simp at h1 a;refine⟨by unfold pfK;omega,λhf=>?_⟩;have:=a hf;unfold pfK;omega
theorem B9e{f x y:Fact}{p:List Fact × Bool}(h:y∈(pfS f p x).1):y∈p.1\/y=x\/y=f:=by
 unfold pfS at h
 split at h
 ·split at h
  ·simp at h;rcases h with h|h|h<;>simp[h]
  ·simp at h;rcases h with h|h<;>simp[h]
 ·simp at h;rcases h with h|h<;>simp[h]
theorem pfM(f:Fact):∀(l:List Fact) (p:List Fact × Bool) (y:Fact),y∈(l.foldl (pfS f) p).1->y∈p.1\/y∈l\/y=f
 | [],_,_,h=> .inl h
 | x::l,p,y,h=>by
  rw[List.foldl_cons] at h
  rcases pfM f l _ y h with h|h|h
  ·rcases B9e h with h|h|h
   ·exact .inl h
   ·exact .inr (.inl (by simp[h]))
   ·exact .inr (.inr h)
  ·exact .inr (.inl (by simp[h]))
  ·exact .inr (.inr h)
theorem B6f{f y:Fact}{l:List Fact}(h:y∈B5M f l):y∈l\/y=f:=by
 have key:∀z,z∈(pfK f l l.length).1->z∈l\/z=f:=λz hz=>by
  unfold pfK at hz;rw[List.take_length] at hz
  rcases pfM f l _ z hz with h|h
  ·cases h
  ·exact h
 unfold B5M at h
 split at h
 ·exact key y h
 ·rcases List.mem_append.1 h with h|h
  ·exact key y h
  ·simp only[List.mem_singleton] at h;exact .inr h
theorem B8t(f:Fact)(l:List Fact):(B5M f l).length<=l.length+1:=by
 have h:=B8E f l l.length;unfold B5M
 split
 ·exact h.1
 ·rename_i hf;have:=h.2 (by simpa using hf);simp;omega
end Go.Sy
