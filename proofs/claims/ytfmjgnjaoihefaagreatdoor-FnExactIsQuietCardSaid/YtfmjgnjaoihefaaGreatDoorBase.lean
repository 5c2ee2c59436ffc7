/-
  Plain facts on lists and numbers that the walks lean on.
  Conditions: none.
-/
import Derived.Test.YtfmjgnjaoihefaaGreatDoorData
namespace Go.Sy
def ED(n:Nat)(left:Int):Int:=if left<n then-1 else left-n
theorem F8{n:Nat}{left:Int}(h:left<n):ED n left= -1:=by unfold ED;rw[if_pos h]
theorem KV{n:Nat}{left:Int}(h:¬left<n):ED n left=left-n:=by unfold ED;rw[if_neg h]
def cp{α:Type}(l:List α)(z:α)(k:Nat):List α:=l.take k++List.replicate (l.length-k) z
theorem KW{α:Type}(l:List α)(z:α):List.replicate l.length z=cp l z 0:=by simp[cp]
theorem M5{α:Type}(l:List α)(z:α)(k:Nat)(h:k<=l.length):(cp l z k).length=l.length:=by simp[cp];omega
theorem M6{α:Type}{l:List α}{z x:α}{k:Nat}(h:l[k]?=some x):(cp l z k).set k x=cp l z (k+1):=by
 have hk:k<l.length:=(List.getElem?_eq_some_iff.1 h).1;unfold cp;have h1:l.length-k=(l.length-(k+1))+1:=by omega
 rw[List.set_append_right _ _ (by simp;omega)];simp only[List.length_take];rw[show k-min k l.length=0 by omega,h1,List.replicate_succ,List.set_cons_zero,List.take_succ_eq_append_getElem hk];have hx:l[k]=x:=by rw[List.getElem?_eq_getElem hk] at h;simpa using h
 simp[hx]
theorem KX{α:Type}{l:List α}{z:α}{k:Nat}(h:l.length<=k):cp l z k=l:=by
 unfold cp;rw[List.take_of_length_le h,show l.length-k=0 by omega];simp
theorem A1{α:Type}{l:List α}{k:Nat}{x:α}(h:l[k]?=some x):l.take (k+1)=l.take k++ [x]:=by
 have hk:k<l.length:=(List.getElem?_eq_some_iff.1 h).1;rw[List.take_succ_eq_append_getElem hk];rw[List.getElem?_eq_getElem hk] at h;simp only[Option.some.injEq] at h;rw[h]
theorem N6{α:Type}{l:List α}{k:Nat}{x:α}(h:l[k]?=some x):x∈l:=List.mem_of_getElem? h
theorem C7{α:Type}{a b:List α}(hl:a.length=b.length)(h:∀i,i<a.length->a[i]?=b[i]?):a=b:=by
 apply List.ext_getElem?
 intro i
 by_cases hi:i<a.length
 ·exact h i hi
 ·rw[List.getElem?_eq_none (by omega),List.getElem?_eq_none (by omega)]
theorem DF{α:Type}{a b:List α}{k:Nat}{x y:α}(h:∀i,i<k->a[i]?=b[i]?)(d:a[k]?=some x)(g:b[k]?=some y)(e:x=y):∀i,i<k+1->a[i]?=b[i]?:=by
 intro i hi
 by_cases hk:i=k
 ·subst hk;rw[d,g,e]
 ·exact h i (by omega)
theorem AF{p:Nat->Prop}{k:Nat}(h:∀i,i<k->p i)(hk:p k):∀i,i<k+1->p i:=by
 intro i hi
 by_cases e:i=k
 ·subst e;exact hk
 ·exact h i (by omega)
def CP{α:Type}(f:Int->α->α)(c:α->Nat):Int->List α->List α
 |_,[]=> []
 |k,x::l=>f k x::CP f c (k+c x) l
def AI{α:Type}(c:α->Nat)(l:List α):Nat:=(l.map c).sum
section
variable {α:Type} {f:Int->α->α} {c:α->Nat} {k:Int} {l:List α} {i:Nat} {x:α}
theorem H8:∀{l:List α} {k:Int},(CP f c k l).length=l.length
 | [],_=>rfl
 |_::l,_=>by simp[CP,H8 (l:=l)]
theorem mA:AI c (l++ [x])=AI c l+c x:=by simp[AI]
theorem G2(a:l[i]?=some x):AI c (l.take (i+1))=AI c (l.take i)+c x:=by rw[A1 a,mA]
theorem AV(l:List α)(c:α->Nat)(i:Nat):AI c (l.take i)<=AI c l:=by
 have:AI c l=AI c (l.take i)+AI c (l.drop i):=by unfold AI;rw[<-List.sum_append,<-List.map_append,List.take_append_drop]
 omega
theorem JZ(hc:∀k x,c (f k x)=c x):∀(l:List α) (k:Int),AI c (CP f c k l)=AI c l
 | [],_=>rfl
 | x::l,k=>by
  have:=JZ hc l (k+c x);simp only[AI,CP,List.map_cons,List.sum_cons,hc] at this⊢;omega
end
def fI(k:Int)(_:Int):Int:=k
def cI(_:Int):Nat:=1
abbrev YU(k:Int)(l:List Int):List Int:=CP fI cI k l
def fR(k:Int)(r:Reason):Reason:=⟨k,YU (k+1) r.In,YU (k+1+r.In.length) r.Out⟩
theorem VO{l:List Nat}{n:Nat}(h:n∈l):n<=l.sum:=by
 induction l with
 |nil=>cases h
 | cons x l ih=>
  simp only[List.sum_cons]
  rcases List.mem_cons.1 h with e|h
  ·omega
  ·have:=ih h;omega
def GO(x lo hi:Int):Bool:=decide (lo<=x)&&decide (x<=hi)
theorem IN{α:Type}{l:List α}{p:α->Bool}(h:∀i,i<l.length->∀x,l[i]?=some x->p x=true):l.all p=true:=by
 rw[List.all_eq_true];intro x hx;obtain⟨i,hi⟩:=List.getElem?_of_mem hx;exact h i (List.getElem?_eq_some_iff.1 hi).1 x hi
theorem S6{α:Type}{l:List α}{p:α->Bool}{k:Nat}{x:α}(h:l[k]?=some x)(a:p x=false):l.all p=false:=by
 rw[List.all_eq_false];exact⟨x,List.mem_of_getElem? h,by simp[a]⟩
/- Indices of the elements with a property. -/
/- Marks. -/
theorem EE{n:Nat}{left:Int}(h:¬ED n left<0):ED n left=left-n/\(n:Int)<=left:=by
 unfold ED at*
 split at* <;>omega
end Go.Sy
