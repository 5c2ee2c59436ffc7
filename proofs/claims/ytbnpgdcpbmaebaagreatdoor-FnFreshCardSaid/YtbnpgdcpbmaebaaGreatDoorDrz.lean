/-
  Rules read from texts: what the parts are; the known ones are valid.
  Conditions: those that each theorem states.
-/
import Derived.Test.YtbnpgdcpbmaebaaGreatDoorNum
section
namespace Go.Sy
open Go
def spK(s sep:ByteArray):Nat->List ByteArray->Nat->Nat->List ByteArray
 |0,out,_,_=>out
 |k+1,out,a,i=>if i+sep.size<=s.size then(if s.extract i (i+sep.size)=sep then spK s sep k (out++ [s.extract a i]) (i+sep.size) (i+sep.size) else spK s sep k out a (i+1)) else out++ [s.extract a s.size]
@[irreducible] def B5p (s sep : ByteArray) : List ByteArray := spK s sep (s.size + 1) [] 0 0
theorem C0i(s sep:ByteArray):B5p s sep=spK s sep (s.size+1) [] 0 0:=by unfold B5p;rfl
theorem C0j{s sep:ByteArray}{k a i:Nat}{out l:List ByteArray}(h:l=spK s sep (k+1) out a i)(h1:i+sep.size<=s.size)(b:s.extract i (i+sep.size)=sep):l=spK s sep k (out++ [s.extract a i]) (i+sep.size) (i+sep.size):=by rw[h,spK,if_pos h1,if_pos b]
theorem C0k{s sep:ByteArray}{k a i:Nat}{out l:List ByteArray}(h:l=spK s sep (k+1) out a i)(h1:i+sep.size<=s.size)(b:s.extract i (i+sep.size)≠sep):l=spK s sep k out a (i+1):=by rw[h,spK,if_pos h1,if_neg b]
theorem C1A{s sep:ByteArray}{k a i:Nat}{out l:List ByteArray}(h:l=spK s sep (k+1) out a i)(h1:¬i+sep.size<=s.size):out++ [s.extract a s.size]=l:=by rw[h,spK,if_neg h1]
def at0(l:List ByteArray):ByteArray:=l.headD ⟨#[]⟩
def at1(l:List ByteArray):ByteArray:=l.tail.headD ⟨#[]⟩
def B5w(l:List ByteArray):Bool:=decide (l.length=2)
@[irreducible] def B5S (s : ByteArray) : Bool := B5w (B5p s ⟨#[40]⟩) && (decide (0 < (at1 (B5p s ⟨#[40]⟩)).size) && decide (sB (at1 (B5p s ⟨#[40]⟩)) ((at1 (B5p s ⟨#[40]⟩)).size - 1) = 41))
def inS(s:ByteArray):ByteArray:=s.extract 0 (s.size-1)
@[irreducible] def B4l (s : ByteArray) : ByteArray := if B5S s = true then at0 (B5p s ⟨#[40]⟩) else ⟨#[]⟩
@[irreducible] def B5A (s : ByteArray) : List ByteArray := if B5S s = true then (if inS (at1 (B5p s ⟨#[40]⟩)) = ⟨#[]⟩ then [] else B5p (inS (at1 (B5p s ⟨#[40]⟩))) ⟨#[44]⟩) else []
def z0P:Pattern:=⟨⟨#[]⟩,[]⟩
@[irreducible] def B4m (s : ByteArray) : Bool := B5S s && CK ⟨B4l s, B5A s⟩
@[irreducible] def bG (s : ByteArray) : Pattern := if B4m s = true then ⟨B4l s, B5A s⟩ else z0P
def z0K:Cond:=⟨0,z0P,⟨#[]⟩,⟨#[]⟩⟩
def B4j(k:Int):ByteArray:=if k=3 then⟨#[32,61,32]⟩ else if k=4 then⟨#[32,33,61,32]⟩ else⟨#[32,60,32]⟩
def B7L(s:ByteArray)(k:Int):Cond:=⟨k,z0P,at0 (B5p s (B4j k)),at1 (B5p s (B4j k))⟩
@[irreducible] def B5f (s : ByteArray) (k : Int) : Bool := B5w (B5p s (B4j k)) && BD (B7L s k)
def B6Z(s:ByteArray):Bool:=decide (4<s.size)&&decide (s.extract 0 4=⟨#[110,111,116,32]⟩)
def B8o(s:ByteArray):Cond:=if B6Z s=true then⟨2,bG (s.extract 4 s.size),⟨#[]⟩,⟨#[]⟩⟩ else⟨1,bG s,⟨#[]⟩,⟨#[]⟩⟩
def B5t(s:ByteArray):Bool:=if B6Z s=true then B4m (s.extract 4 s.size) else B4m s
@[irreducible] def C1E (s : ByteArray) : Cond := if B5f s 3 = true then B7L s 3 else if B5f s 4 = true then B7L s 4 else if B5f s 5 = true then B7L s 5 else if B5t s = true then B8o s else z0K
@[irreducible] def C1N (s : ByteArray) : Bool := B5f s 3 || (B5f s 4 || (B5f s 5 || B5t s))
def B8P:ByteArray:=⟨#[97,100,100]⟩
def B8C:ByteArray:=⟨#[100,114,111,112]⟩
def B6T:ByteArray:=⟨#[115,116,111,112]⟩
def B7k(s:ByteArray):Bool:=B5w (B5p s ⟨#[32]⟩)&&(decide (at0 (B5p s ⟨#[32]⟩)=B8P)||decide (at0 (B5p s ⟨#[32]⟩)=B8C))
@[irreducible] def C1O (s : ByteArray) : Action := if s = B6T then ⟨3, z0P⟩ else if B7k s = true then ⟨if at0 (B5p s ⟨#[32]⟩) = B8P then 1 else 2, bG (at1 (B5p s ⟨#[32]⟩))⟩ else ⟨0, z0P⟩
@[irreducible] def B4q (s : ByteArray) : Bool := if s = B6T then true else B7k s && B4m (at1 (B5p s ⟨#[32]⟩))
def ifL(s:ByteArray):List ByteArray:=B5p s ⟨#[32,38,32]⟩
def B8p(r:Rule)(a b:ByteArray):Rule:=⟨r.Name,r.Priority,r.If++(ifL a).map C1E,r.Then++(ifL b).map C1O⟩
@[irreducible] def B5T (r : Rule) (a b : ByteArray) : Bool := (ifL a).all C1N && ((ifL b).all B4q && CR (B8p r a b))
def hdL(s:ByteArray):List ByteArray:=B5p (at0 (B5p s ⟨#[58,32]⟩)) ⟨#[32]⟩
def bdL(s:ByteArray):List ByteArray:=B5p (at1 (B5p s ⟨#[58,32]⟩)) ⟨#[32,45,62,32]⟩
def B7l(s:ByteArray):Bool:=B5w (B5p s ⟨#[58,32]⟩)&&(B5w (hdL s)&&B5w (bdL s))
def B8Q(s:ByteArray):Rule:=⟨at0 (hdL s),pI (at1 (hdL s)),[],[]⟩
@[irreducible] def B5K (s : ByteArray) : Bool := B7l s && (pO (at1 (hdL s)) && B5T (B8Q s) (at0 (bdL s)) (at1 (bdL s)))
def z0R:Rule:=⟨⟨#[]⟩,0,[],[]⟩
@[irreducible] def B4o (s : ByteArray) : Rule := if B5K s = true then B8p (B8Q s) (at0 (bdL s)) (at1 (bdL s)) else z0R
def known:List ByteArray:=[⟨#[114,32,49,58,32,111,110,40,63,120,44,63,121,41,32,38,32,111,110,40,63,121,44,63,122,41,32,45,62,32,97,100,100,32,111,110,40,63,120,44,63,122,41]⟩,
 ⟨#[114,32,50,58,32,111,110,40,63,120,44,63,121,41,32,38,32,112,40,63,121,41,32,45,62,32,97,100,100,32,112,40,63,120,41]⟩,
 ⟨#[114,32,48,58,32,112,40,63,120,41,32,38,32,111,110,40,63,120,44,63,121,41,32,38,32,63,120,32,33,61,32,63,121,32,45,62,32,97,100,100,32,97,116,40,63,121,44,63,120,41]⟩,
 ⟨#[114,32,51,58,32,97,116,40,63,120,44,63,121,41,32,38,32,112,40,63,120,41,32,38,32,112,40,63,121,41,32,38,32,63,120,32,60,32,63,121,32,45,62,32,97,100,100,32,122,40,41]⟩,
 ⟨#[114,32,52,58,32,111,110,40,63,120,44,97,41,32,45,62,32,97,100,100,32,113,40,63,120,41,32,38,32,97,100,100,32,112,40,97,41]⟩,
 ⟨#[114,32,49,58,32,97,116,40,63,120,44,63,120,41,32,38,32,113,40,49,41,32,45,62,32,97,100,100,32,111,110,40,63,120,44,49,41]⟩,
 ⟨#[114,32,49,58,32,112,40,63,120,41,32,38,32,110,111,116,32,113,40,63,120,41,32,45,62,32,97,100,100,32,97,116,40,63,120,44,98,41]⟩,
 ⟨#[114,32,50,58,32,111,110,40,63,120,44,63,121,41,32,38,32,110,111,116,32,97,116,40,63,121,44,63,122,41,32,45,62,32,97,100,100,32,113,40,63,121,41]⟩,
 ⟨#[114,32,53,58,32,97,116,40,63,120,44,63,121,41,32,38,32,110,111,116,32,112,40,63,121,41,32,38,32,63,120,32,33,61,32,63,121,32,45,62,32,97,100,100,32,122,40,41]⟩,
 ⟨#[114,32,57,58,32,113,40,63,120,41,32,38,32,112,40,63,120,41,32,45,62,32,100,114,111,112,32,112,40,63,120,41]⟩,
 ⟨#[114,32,48,58,32,97,116,40,63,120,44,49,41,32,38,32,97,116,40,63,121,44,50,41,32,38,32,63,120,32,61,32,63,121,32,45,62,32,100,114,111,112,32,97,116,40,63,120,44,49,41,32,38,32,115,116,111,112]⟩,
 ⟨#[114,32,49,58,32,111,110,40,63,120,44,63,120,41,32,45,62,32,115,116,111,112]⟩,
 ⟨#[114,32,55,58,32,122,40,41,32,38,32,111,110,40,63,120,44,63,121,41,32,45,62,32,100,114,111,112,32,122,40,41,32,38,32,97,100,100,32,111,110,40,63,121,44,63,120,41]⟩]
def dgt(s:ByteArray):Int:=sB s 0-48
def knB(s:ByteArray):Bool:=B7l s&&(decide (0<=dgt (at1 (hdL s)))&&(decide (dgt (at1 (hdL s))<=9)&&(decide (ES (dgt (at1 (hdL s)))=at1 (hdL s))&&B5T ⟨at0 (hdL s),dgt (at1 (hdL s)),[],[]⟩ (at0 (bdL s)) (at1 (bdL s)))))
theorem C0K{s:ByteArray}(h:knB s=true):B5K s=true/\CR (B4o s)=true:=by
 simp only[knB,Bool.and_eq_true,decide_eq_true_eq] at h;obtain⟨h1,b,d,c,a⟩:=h;have hp:=xI b (by omega) c;have e:B8Q s=⟨at0 (hdL s),dgt (at1 (hdL s)),[],[]⟩:=by unfold B8Q;rw[<-hp.1]
 have hb:B5K s=true:=by
  unfold B5K;rw[h1,<-hp.2,e,a];rfl
 refine⟨hb,?_⟩;unfold B4o;rw[if_pos hb,e];simp only[B5T,Bool.and_eq_true] at a;exact a.2.2
theorem B8R:known.all knB=true:=by kernel_rfl
theorem B8q{s:ByteArray}(h:s∈known):B5K s=true/\CR (B4o s)=true:=C0K (List.all_eq_true.1 B8R s h)
end Go.Sy
end
/-
  What is drawn: facts put into a list.
  Conditions: those that each theorem states.
-/
section
namespace Go.Sy
open Go
theorem B9y{α:Type}{p:α->Bool}{l:List α}{y:α}(h:y∈l)(hd:l.all p=true):p y=true:=List.all_eq_true.1 hd y h
theorem B6D{l:List ByteArray}{y:ByteArray}{n:Nat}(h:y∈l)(hd:l.all (λx=>decide (x.size<=n))=true):y.size<=n:=of_decide_eq_true (B9y (p:=λx=>decide (x.size<=n)) h hd)
def pfS(f:Fact)(p:List Fact × Bool)(x:Fact):List Fact × Bool:=if (!p.2&&decide (0<=HS x f))=true then((if 0<HS x f then p.1++ [f] else p.1)++ [x],true) else(p.1++ [x],p.2)
def pfK(f:Fact)(l:List Fact)(k:Nat):List Fact × Bool:=(l.take k).foldl (pfS f) ([],false)
def B5M(f:Fact)(l:List Fact):List Fact:=if (pfK f l l.length).2=true then(pfK f l l.length).1 else(pfK f l l.length).1++ [f]
theorem C0l(f:Fact)(l:List Fact):[]=(pfK f l 0).1:=rfl
theorem B8D{f:Fact}{l:List Fact}{k:Nat}{x:Fact}(h:l[k]?=some x):pfK f l (k+1)=pfS f (pfK f l k) x:=by
 unfold pfK;rw[A1 h,List.foldl_append];rfl
section
variable {f x:Fact} {l:List Fact} {k:Nat} {dn:Bool}
theorem B7Z(h:l[k]?=some x)(hd:dn=(pfK f l k).2)(h0:dn=false)(h1:0<=HS x f)(a:0<HS x f):(pfK f l k).1++ [f]++ [x]=(pfK f l (k+1)).1/\true=(pfK f l (k+1)).2:=by
 rw[B8D h];simp[pfS,<-hd,h0,h1,a]
theorem B7a(h:l[k]?=some x)(hd:dn=(pfK f l k).2)(h0:dn=false)(h1:0<=HS x f)(a:¬0<HS x f):(pfK f l k).1++ [x]=(pfK f l (k+1)).1/\true=(pfK f l (k+1)).2:=by
 rw[B8D h];simp[pfS,<-hd,h0,h1,a]
theorem B7b(h:l[k]?=some x)(hd:dn=(pfK f l k).2)(h1:¬0<=HS x f):(pfK f l k).1++ [x]=(pfK f l (k+1)).1/\dn=(pfK f l (k+1)).2:=by
 rw[B8D h];have:(pfS f (pfK f l k) x)=((pfK f l k).1++ [x],(pfK f l k).2):=by unfold pfS;rw[decide_eq_false h1];simp
 rw[this];exact⟨rfl,hd⟩
theorem B7c(h:l[k]?=some x)(hd:dn=(pfK f l k).2)(h0:dn=true):(pfK f l k).1++ [x]=(pfK f l (k+1)).1/\dn=(pfK f l (k+1)).2:=by
 rw[B8D h];have:(pfS f (pfK f l k) x)=((pfK f l k).1++ [x],(pfK f l k).2):=by unfold pfS;rw[<-hd,h0];simp
 rw[this];exact⟨rfl,hd⟩
theorem B8r(h1:k<=l.length)(a:l.length<=k)(hd:(pfK f l k).2=true):(pfK f l k).1=B5M f l:=by
 have e:k=l.length:=by omega
 subst e;simp[B5M,hd]
theorem B8s(h1:k<=l.length)(a:l.length<=k)(hd:(pfK f l k).2=false):(pfK f l k).1++ [f]=B5M f l:=by
 have e:k=l.length:=by omega
 subst e;simp[B5M,hd]
end
theorem pfL(f:Fact):∀(l:List Fact) (p:List Fact × Bool),(l.foldl (pfS f) p).1.length<=p.1.length+l.length+(if p.2=true then 0 else 1)/\((l.foldl (pfS f) p).2=false->(l.foldl (pfS f) p).1.length=p.1.length+l.length)/\(p.2=true->(l.foldl (pfS f) p).2=true)
 | [],p=>by simp
 | x::l,p=>by
  have h:=pfL f l (pfS f p x);have h0:(pfS f p x).1.length<=p.1.length+1+(if p.2=true then 0 else if (pfS f p x).2=true then 1 else 0)/\((pfS f p x).2=false->(pfS f p x).1.length=p.1.length+1)/\(p.2=true->(pfS f p x).2=true):=by
   obtain⟨a,b⟩:=p;unfold pfS
   cases b with
   |true=>simp
   | false=>
    by_cases h1:0<=HS x f
    ·by_cases c:0<HS x f<;>simp[h1,c]
    ·simp[h1]
  rw[List.foldl_cons,List.length_cons];obtain⟨h1,c,d⟩:=h;obtain⟨g1,g2,g3⟩:=h0;refine⟨?_,λhf=>?_,λhp=>d (g3 hp)⟩
  ·cases hb:p.2 with
   | true=>
    have:=g3 hb;rw[hb] at g1;rw[this] at h1;simp at g1 h1⊢;omega
   | false=>
    rw[hb] at g1
    cases hc:(pfS f p x).2 with
    |true=>rw[hc] at g1 h1;simp at g1 h1⊢;omega
    |false=>rw[hc] at g1 h1;simp at g1 h1⊢;omega
  ·have hc:(pfS f p x).2=false:=by
    cases hc:(pfS f p x).2 with
    |true=>rw[d hc] at hf;cases hf
    |false=>rfl
   have:=c hf;have:=g2 hc;omega
theorem B8E(f:Fact)(l:List Fact)(k:Nat):(pfK f l k).1.length<=k+1/\((pfK f l k).2=false->(pfK f l k).1.length<=k):=by
 have h:=pfL f (l.take k) ([],false);have b:(l.take k).length<=k:=by rw[List.length_take];omega
 obtain⟨h1,a,_⟩:=h;simp at h1 a;refine⟨by unfold pfK;omega,λhf=>?_⟩;have:=a hf;unfold pfK;omega
theorem B9e{f x y:Fact}{p:List Fact × Bool}(h:y∈(pfS f p x).1):y∈p.1\/y=x\/y=f:=by
 unfold pfS at h
 split at h
 ·split at h
  ·simp at h;rcases h with h|h|h<;>simp[h]
  ·simp at h;rcases h with h|h<;>simp[h]
 ·simp at h;rcases h with h|h<;>simp[h]
theorem pfM(f:Fact):∀(l:List Fact) (p:List Fact × Bool) (y:Fact),y∈(l.foldl (pfS f) p).1->y∈p.1\/y∈l\/y=f
 | [],_,_,h=> .inl h
 | x::l,p,y,h=>by
  rw[List.foldl_cons] at h
  rcases pfM f l _ y h with h|h|h
  ·rcases B9e h with h|h|h
   ·exact .inl h
   ·exact .inr (.inl (by simp[h]))
   ·exact .inr (.inr h)
  ·exact .inr (.inl (by simp[h]))
  ·exact .inr (.inr h)
theorem B6f{f y:Fact}{l:List Fact}(h:y∈B5M f l):y∈l\/y=f:=by
 have key:∀z,z∈(pfK f l l.length).1->z∈l\/z=f:=λz hz=>by
  unfold pfK at hz;rw[List.take_length] at hz
  rcases pfM f l _ z hz with h|h
  ·cases h
  ·exact h
 unfold B5M at h
 split at h
 ·exact key y h
 ·rcases List.mem_append.1 h with h|h
  ·exact key y h
  ·simp only[List.mem_singleton] at h;exact .inr h
theorem B8t(f:Fact)(l:List Fact):(B5M f l).length<=l.length+1:=by
 have h:=B8E f l l.length;unfold B5M
 split
 ·exact h.1
 ·rename_i hf;have:=h.2 (by simpa using hf);simp;omega
end Go.Sy
end
