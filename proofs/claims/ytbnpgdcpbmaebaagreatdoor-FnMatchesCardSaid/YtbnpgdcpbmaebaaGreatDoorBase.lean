/-
  Plain facts on lists and numbers that the walks lean on.
  Conditions: none.
-/
import Derived.Test.YtbnpgdcpbmaebaaGreatDoorData
namespace Go.Sy
theorem A1{α:Type}{l:List α}{k:Nat}{x:α}(h:l[k]?=some x):l.take (k+1)=l.take k++ [x]:=by
 have hk:k<l.length:=(List.getElem?_eq_some_iff.1 h).1;rw[List.take_succ_eq_append_getElem hk];rw[List.getElem?_eq_getElem hk] at h;simp only[Option.some.injEq] at h;rw[h]
theorem C7{α:Type}{a b:List α}(hl:a.length=b.length)(h:∀i,i<a.length->a[i]?=b[i]?):a=b:=by
 apply List.ext_getElem?
 intro i
 by_cases hi:i<a.length
 ·exact h i hi
 ·rw[List.getElem?_eq_none (by omega),List.getElem?_eq_none (by omega)]
theorem DF{α:Type}{a b:List α}{k:Nat}{x y:α}(h:∀i,i<k->a[i]?=b[i]?)(d:a[k]?=some x)(g:b[k]?=some y)(e:x=y):∀i,i<k+1->a[i]?=b[i]?:=by
 intro i hi
 by_cases hk:i=k
 ·subst hk;rw[d,g,e]
 ·exact h i (by omega)
theorem AF{p:Nat->Prop}{k:Nat}(h:∀i,i<k->p i)(hk:p k):∀i,i<k+1->p i:=by
 intro i hi
 by_cases e:i=k
 ·subst e;exact hk
 ·exact h i (by omega)
def AI{α:Type}(c:α->Nat)(l:List α):Nat:=(l.map c).sum
section
variable {α:Type} {f:Int->α->α} {c:α->Nat} {k:Int} {l:List α} {i:Nat} {x:α}
theorem AV(l:List α)(c:α->Nat)(i:Nat):AI c (l.take i)<=AI c l:=by
 have:AI c l=AI c (l.take i)+AI c (l.drop i):=by unfold AI;rw[<-List.sum_append,<-List.map_append,List.take_append_drop]
 omega
end
theorem VO{l:List Nat}{n:Nat}(h:n∈l):n<=l.sum:=by
 induction l with
 |nil=>cases h
 | cons x l ih=>
  simp only[List.sum_cons]
  rcases List.mem_cons.1 h with e|h
  ·omega
  ·have:=ih h;omega
def GO(x lo hi:Int):Bool:=decide (lo<=x)&&decide (x<=hi)
theorem IN{α:Type}{l:List α}{p:α->Bool}(h:∀i,i<l.length->∀x,l[i]?=some x->p x=true):l.all p=true:=by
 rw[List.all_eq_true];intro x hx;obtain⟨i,hi⟩:=List.getElem?_of_mem hx;exact h i (List.getElem?_eq_some_iff.1 hi).1 x hi
theorem S6{α:Type}{l:List α}{p:α->Bool}{k:Nat}{x:α}(h:l[k]?=some x)(a:p x=false):l.all p=false:=by
 rw[List.all_eq_false];exact⟨x,List.mem_of_getElem? h,by simp[a]⟩
/- Indices of the elements with a property. -/
/- Marks. -/
end Go.Sy
