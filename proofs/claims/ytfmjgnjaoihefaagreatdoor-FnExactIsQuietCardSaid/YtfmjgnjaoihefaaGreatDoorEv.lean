/-
  Atoms, names, facts, events: what is valid.
  Conditions: none.
-/
import Derived.Test.YtfmjgnjaoihefaaGreatDoorBase
import Derived.Test.YtfmjgnjaoihefaaGreatDoorOwn2
namespace Go.Sy
def M8(b:Int):Bool:=GO b 97 122||GO b 48 57
def BA(s:ByteArray):Bool:=decide (1<=s.size)&&decide (s.size<=8)&&(List.range s.size).all (λk=>M8 (sB s k))
theorem fP{b:Int}(h:(97<=b/\b<=122)\/(48<=b/\b<=57)):M8 b=true:=by
 unfold M8 GO
 rcases h with h|h<;>simp[h.1,h.2]
theorem fQ{b:Int}(h:¬((97<=b/\b<=122)\/(48<=b/\b<=57))):M8 b=false:=by
 unfold M8 GO;rw[Bool.eq_false_iff];simp only[ne_eq,Bool.or_eq_true,Bool.and_eq_true,decide_eq_true_eq];exact h
theorem S7{s:ByteArray}(h:¬(1<=s.size/\s.size<=8)):false=BA s:=by
 unfold BA;have:(decide (1<=s.size)&&decide (s.size<=8))=false:=by
  rw[Bool.eq_false_iff];simpa using h
 rw[this];rfl
theorem S8{s:ByteArray}{k:Nat}(hk:k<s.size)(h:M8 (sB s k)=false):false=BA s:=by
 unfold BA;have:(List.range s.size).all (λk=>M8 (sB s k))=false:=by
  rw[List.all_eq_false];exact⟨k,by simpa using hk,by simp[h]⟩
 rw[this];simp
theorem qQ{s:ByteArray}(h:1<=s.size/\s.size<=8)(a:∀i,i<s.size->M8 (sB s i)=true):true=BA s:=by
 unfold BA;have:(List.range s.size).all (λk=>M8 (sB s k))=true:=by
  rw[List.all_eq_true];intro i b;exact a i (by simpa using b)
 rw[this,decide_eq_true h.1,decide_eq_true h.2];rfl
theorem A1g{s:ByteArray}(a:∀i,i<s.size->M8 (sB s i)=true):GO (s.size:Int) 1 8=BA s:=by
 by_cases h:1<=s.size/\s.size<=8
 ·rw[<-qQ h a];unfold GO;rw[decide_eq_true (by omega),decide_eq_true (by omega)];rfl
 ·rw[<-S7 h];unfold GO;rw[Bool.eq_false_iff];simp only[ne_eq,Bool.and_eq_true,decide_eq_true_eq];omega
theorem IV{s:ByteArray}(h:BA s=true):1<=s.size/\s.size<=8:=by
 simp only[BA,Bool.and_eq_true,decide_eq_true_eq] at h;exact h.1
theorem wJ{s:ByteArray}(h:BA s=true){k:Nat}(hk:k<s.size):M8 (sB s k)=true:=by
 simp only[BA,Bool.and_eq_true,List.all_eq_true] at h;exact h.2 k (by simpa using hk)
def FK(s:ByteArray):Bool:=BA s&&decide (97<=sB s 0)
theorem A1h{s:ByteArray}(h:BA s=true):GO (sB s 0) 97 122=decide (97<=sB s 0):=by
 have h1:=wJ h (k:=0) (by have:=IV h;omega);unfold M8 GO at*;rw[Bool.eq_iff_iff];simp only[Bool.or_eq_true,Bool.and_eq_true,decide_eq_true_eq] at*;omega
def BI(f:Fact):Bool:=FK f.Rel&&decide (f.Args.length<=3)&&f.Args.all BA
def AN(x:Event):Bool:=
 if x.Kind=1\/x.Kind=2 then decide (x.Rule=⟨#[]⟩)&&BI x.Fact
 else if x.Kind=3\/x.Kind=6 then FK x.Rule&&(decide (x.Fact.Rel=⟨#[]⟩)&&decide (x.Fact.Args.length=0))
 else if x.Kind=4\/x.Kind=5 then FK x.Rule&&BI x.Fact
 else false
def VP(s:ByteArray):Prop:=s.size<=9223372036854775807
def okI(n:Int):Prop:= -9223372036854775808<=n/\n<=9223372036854775807
def A1i(l:List ByteArray):Prop:=∀x∈l,VP x
def P9(f:Fact):Prop:=VP f.Rel/\A1i f.Args
def wK(x:Event):Prop:=okI x.Kind/\VP x.Rule/\P9 x.Fact
def M9(l:List ByteArray):Nat:=l.length+(l.map (·.size)).sum
def F9(f:Fact):Nat:=f.Rel.size+M9 f.Args
def L9(x:Event):Nat:=x.Rule.size+F9 x.Fact
theorem W3{l:List ByteArray}{k:Nat}{r:ByteArray}(h:l[k]?=some r):((l.take (k+1)).map (·.size)).sum=((l.take k).map (·.size)).sum+r.size:=by
 rw[A1 h];simp
theorem QA(l:List ByteArray)(k:Nat):((l.take k).map (·.size)).sum<=(l.map (·.size)).sum:=by
 have:(l.map (·.size)).sum=((l.take k).map (·.size)).sum+((l.drop k).map (·.size)).sum:=by
  rw[<-List.sum_append,<-List.map_append,List.take_append_drop]
 omega
end Go.Sy
