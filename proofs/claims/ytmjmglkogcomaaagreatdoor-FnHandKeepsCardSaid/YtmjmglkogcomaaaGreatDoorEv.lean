/-
  Plain facts on lists and numbers that the walks lean on.
  Conditions: none.
-/
import Derived.Test.YtmjmglkogcomaaaGreatDoorProg
import Derived.Test.YtmjmglkogcomaaaGreatDoorTypes
section
namespace Go.Sy
def ED(n:Nat)(left:Int):Int:=if left<n then-1 else left-n
theorem A1{α:Type}{l:List α}{k:Nat}{x:α}(h:l[k]?=some x):l.take (k+1)=l.take k++ [x]:=by
 have a:k<l.length:=(List.getElem?_eq_some_iff.1 h).1;rw[List.take_succ_eq_append_getElem a];rw[List.getElem?_eq_getElem a] at h;simp only[Option.some.injEq] at h;rw[h]
theorem C7{α:Type}{a b:List α}(hl:a.length=b.length)(h:∀i,i<a.length->a[i]?=b[i]?):a=b:=by
 apply List.ext_getElem?
 intro i
 by_cases hi:i<a.length
 ·exact h i hi
 ·rw[List.getElem?_eq_none (by omega),List.getElem?_eq_none (by omega)]
theorem DF{α:Type}{a b:List α}{k:Nat}{x y:α}(h:∀i,i<k->a[i]?=b[i]?)(d:a[k]?=some x)(g:b[k]?=some y)(e:x=y):∀i,i<k+1->a[i]?=b[i]?:=by
 intro i hi
 by_cases hk:i=k
 ·subst hk;rw[d,g,e]
 ·exact h i (by omega)
theorem AF{p:Nat->Prop}{k:Nat}(h:∀i,i<k->p i)(hk:p k):∀i,i<k+1->p i:=by
 intro i hi
 by_cases e:i=k
 ·subst e;exact hk
 ·exact h i (by omega)
def CP{α:Type}(f:Int->α->α)(c:α->Nat):Int->List α->List α
 |_,[]=> []
 |k,x::l=>f k x::CP f c (k+c x) l
def AI{α:Type}(c:α->Nat)(l:List α):Nat:=(l.map c).sum
section
variable {α:Type} {f:Int->α->α} {c:α->Nat} {k:Int} {l:List α} {i:Nat} {x:α}
theorem mA:AI c (l++ [x])=AI c l+c x:=by simp[AI]
theorem G2(a:l[i]?=some x):AI c (l.take (i+1))=AI c (l.take i)+c x:=by rw[A1 a,mA]
theorem AV(l:List α)(c:α->Nat)(i:Nat):AI c (l.take i)<=AI c l:=by
 have:AI c l=AI c (l.take i)+AI c (l.drop i):=by unfold AI;rw[<-List.sum_append,<-List.map_append,List.take_append_drop]
 omega
end
def fI(k:Int)(_:Int):Int:=k
def cI(_:Int):Nat:=1
abbrev YU(k:Int)(l:List Int):List Int:=CP fI cI k l
def fR(k:Int)(r:C1D):C1D:=⟨k,YU (k+1) r.r,YU (k+1+r.r.length) r.p1⟩
theorem VO{l:List Nat}{n:Nat}(h:n∈l):n<=l.sum:=by
 induction l with
 |nil=>cases h
 | cons x l ih=>
  simp only[List.sum_cons]
  rcases List.mem_cons.1 h with e|h
  ·omega
  ·have:=ih h;omega
def GO(x lo hi:Int):Bool:=decide (lo<=x)&&decide (x<=hi)
theorem IN{α:Type}{l:List α}{p:α->Bool}(h:∀i,i<l.length->∀x,l[i]?=some x->p x=true):l.all p=true:=by
 rw[List.all_eq_true];intro x hx;obtain⟨i,a⟩:=List.getElem?_of_mem hx;exact h i (List.getElem?_eq_some_iff.1 a).1 x a
theorem S6{α:Type}{l:List α}{p:α->Bool}{k:Nat}{x:α}(h:l[k]?=some x)(a:p x=false):l.all p=false:=by
 rw[List.all_eq_false];exact⟨x,List.mem_of_getElem? h,by simp[a]⟩
/- Indices of the elements with a property. -/
/- Marks. -/
end Go.Sy
end
/-
  Contracts of functions of the program, walked (printed by a program of ours).
  Conditions: those that each theorem states.
-/
section
set_option linter.unusedVariables false
set_option maxRecDepth 20000
namespace Go.Sy.Bel1
open Go Go.RowKit Go.Proofs Go.Sy
theorem mixed:Tryz.prog.follows .mixedOrders=true:=by kernel_rfl
theorem E7{w:World}{x:Int}{least:Int}{a:Int}:Calls Tryz.prog 96 [(iv x),(iv least),(iv a)].toArray w (Val w (.bool (GO x least a))):=by
 refine enter 15 Tryz.func96 Y Y Y<|Sr<|Pe Y<|Sr<|P3 Y Y Y<|p1 Y<|EY 10 Y Y (λb=>?_) λb=>?_
 ·refine PE 5 Y<|Ct<|Rb Y Y ?_;show((decide ((x:Int)<=a)):Bool)=_;simp_all[GO];try omega
 ·refine PE 5 Y<|Ct<|Rb Y Y ?_;simp_all[GO];try omega
end Go.Sy.Bel1
end
/-
  Atoms, names, facts, events: what is valid.
  Conditions: none.
-/
section
namespace Go.Sy
def M8(b:Int):Bool:=GO b 97 122||GO b 48 57
def BA(s:ByteArray):Bool:=decide (1<=s.size)&&decide (s.size<=8)&&(List.range s.size).all (λk=>M8 (sB s k))
theorem fP{b:Int}(h:(97<=b/\b<=122)\/(48<=b/\b<=57)):M8 b=true:=by
 unfold M8 GO
 rcases h with h|h<;>simp[h.1,h.2]
theorem fQ{b:Int}(h:¬((97<=b/\b<=122)\/(48<=b/\b<=57))):M8 b=false:=by
 unfold M8 GO;rw[Bool.eq_false_iff];simp only[ne_eq,Bool.or_eq_true,Bool.and_eq_true,decide_eq_true_eq];exact h
theorem S7{s:ByteArray}(h:¬(1<=s.size/\s.size<=8)):false=BA s:=by
 unfold BA;have:(decide (1<=s.size)&&decide (s.size<=8))=false:=by
  rw[Bool.eq_false_iff];simpa using h
 rw[this];rfl
theorem S8{s:ByteArray}{k:Nat}(hk:k<s.size)(h:M8 (sB s k)=false):false=BA s:=by
 unfold BA;have:(List.range s.size).all (λk=>M8 (sB s k))=false:=by
  rw[List.all_eq_false];exact⟨k,by simpa using hk,by simp[h]⟩
 rw[this];simp
theorem qQ{s:ByteArray}(h:1<=s.size/\s.size<=8)(a:∀i,i<s.size->M8 (sB s i)=true):true=BA s:=by
 unfold BA;have:(List.range s.size).all (λk=>M8 (sB s k))=true:=by
  rw[List.all_eq_true];intro i b;exact a i (by simpa using b)
 rw[this,decide_eq_true h.1,decide_eq_true h.2];rfl
theorem A1g{s:ByteArray}(a:∀i,i<s.size->M8 (sB s i)=true):GO (s.size:Int) 1 8=BA s:=by
 by_cases h:1<=s.size/\s.size<=8
 ·rw[<-qQ h a];unfold GO;rw[decide_eq_true (by omega),decide_eq_true (by omega)];rfl
 ·rw[<-S7 h];unfold GO;rw[Bool.eq_false_iff];simp only[ne_eq,Bool.and_eq_true,decide_eq_true_eq];omega
theorem IV{s:ByteArray}(h:BA s=true):1<=s.size/\s.size<=8:=by
 simp only[BA,Bool.and_eq_true,decide_eq_true_eq] at h;exact h.1
theorem wJ{s:ByteArray}(h:BA s=true){k:Nat}(hk:k<s.size):M8 (sB s k)=true:=by
 simp only[BA,Bool.and_eq_true,List.all_eq_true] at h;exact h.2 k (by simpa using hk)
def FK(s:ByteArray):Bool:=BA s&&decide (97<=sB s 0)
theorem A1h{s:ByteArray}(h:BA s=true):GO (sB s 0) 97 122=decide (97<=sB s 0):=by
 have h1:=wJ h (k:=0) (by have:=IV h;omega);unfold M8 GO at*;rw[Bool.eq_iff_iff];simp only[Bool.or_eq_true,Bool.and_eq_true,decide_eq_true_eq] at*;omega
def BI(f:C1G):Bool:=FK f.p5&&decide (f.a.length<=3)&&f.a.all BA
def AN(x:C1K):Bool:=
 if x.s=1\/x.s=2 then decide (x.p7=⟨#[]⟩)&&BI x.j
 else if x.s=3\/x.s=6 then FK x.p7&&(decide (x.j.p5=⟨#[]⟩)&&decide (x.j.a.length=0))
 else if x.s=4\/x.s=5 then FK x.p7&&BI x.j
 else false
def VP(s:ByteArray):Prop:=s.size<=9223372036854775807
def okI(n:Int):Prop:= -9223372036854775808<=n/\n<=9223372036854775807
def A1i(l:List ByteArray):Prop:=∀x∈l,VP x
def P9(f:C1G):Prop:=VP f.p5/\A1i f.a
def wK(x:C1K):Prop:=okI x.s/\VP x.p7/\P9 x.j
def M9(l:List ByteArray):Nat:=l.length+(l.map (·.size)).sum
def F9(f:C1G):Nat:=f.p5.size+M9 f.a
def L9(x:C1K):Nat:=x.p7.size+F9 x.j
end Go.Sy
end
