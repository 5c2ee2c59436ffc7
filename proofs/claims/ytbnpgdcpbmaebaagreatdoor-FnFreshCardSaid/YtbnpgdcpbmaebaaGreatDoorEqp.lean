/-
  Fresh choices and those that fired are all the matches.
  Conditions: those that each theorem states.
-/
import Derived.Test.YtbnpgdcpbmaebaaGreatDoorMch
import Derived.Test.YtbnpgdcpbmaebaaGreatDoorDrw3
import Derived.Test.YtbnpgdcpbmaebaaGreatDoorOwn2
import Derived.Laws.StructEq
import Derived.ChangeKeysEq
section
namespace Go.Sy
open Go
section
variable {rules:List Rule} {l:List Stamp} {fired:List Firing} {k:Nat} {m:Match} {c:Choice}
theorem C1T(h:AR rules=false\/C5 l=false):(EK rules l fired).length=0:=by rw[<-A5z h];rfl
theorem C4A(h1:AR rules=true)(a:C5 l=true):DX rules (l.map Stamp.Fact)=GE rules (l.map Stamp.Fact):=by simp[DX,h1,L0 a]
theorem C1e{facts:List Fact}(h:AR rules=false\/AW facts=false):[]=DX rules facts:=by
 rcases h with h|h<;>simp[DX,h]
theorem C4H{facts:List Fact}(h1:AR rules=true)(a:AW facts=true):GE rules facts=DX rules facts:=by simp[DX,h1,a]
theorem C4S(h1:AR rules=true)(a:C5 l=true)(b:(DX rules (l.map Stamp.Fact))[k]?=some m):G9 rules l m=true/\CW rules l m=NP rules l m:=by
 rw[C4A h1 a] at b;exact A2l h1 a (List.mem_of_getElem? b)
theorem C1V(h1:AR rules=true)(a:C5 l=true)(b:(DX rules (l.map Stamp.Fact))[k]?=some m)(h:G9 rules l m=false):False:=by
 rw[(C4S h1 a b).1] at h;cases h
def C1k(rules:List Rule)(l:List Stamp)(fired:List Firing)(k:Nat):Nat:=C1d rules l fired ((DX rules (l.map Stamp.Fact)).take k)
theorem C4a:0=C1k rules l fired 0:=by simp[C1k,C1d]
theorem C4T(a:(DX rules (l.map Stamp.Fact))[k]?=some m):C1k rules l fired (k+1)=C1k rules l fired k+(if MG fired m.Rule (BJ l m.Facts)=true then 1 else 0):=by
 unfold C1k C1d;rw[List.take_add_one,a,List.filter_append,List.length_append];simp only[Option.toList_some,List.filter_cons,List.filter_nil]
 split<;>simp
theorem C4U(h1:AR rules=true)(d:C5 l=true)(a:(DX rules (l.map Stamp.Fact))[k]?=some m)(b:MG fired (CW rules l m).Match.Rule (CW rules l m).Times=true):C1k rules l fired k+1=C1k rules l fired (k+1):=by
 rw[(C4S h1 d a).2] at b;have:MG fired m.Rule (BJ l m.Facts)=true:=b;rw[C4T a,if_pos this]
theorem C4V(h1:AR rules=true)(d:C5 l=true)(a:(DX rules (l.map Stamp.Fact))[k]?=some m)(b:MG fired (CW rules l m).Match.Rule (CW rules l m).Times=false):C1k rules l fired k=C1k rules l fired (k+1):=by
 rw[(C4S h1 d a).2] at b;have:MG fired m.Rule (BJ l m.Facts)=false:=b;rw[C4T a,this];rfl
theorem C1Q(h1:AR rules=true)(a:C5 l=true)(hk:(DX rules (l.map Stamp.Fact)).length<=k):(EK rules l fired).length+C1k rules l fired k=(DX rules (l.map Stamp.Fact)).length:=by
 unfold C1k;rw[List.take_of_length_le hk,C4A h1 a];exact C4G h1 a
theorem C4Y(hc:(EK rules l fired)[k]?=some c):MG fired c.Match.Rule c.Times=false/\c.Match∈DX rules (l.map Stamp.Fact):=by
 obtain⟨h1,a,m,hm,rfl,hf⟩:=gY (List.mem_of_getElem? hc);rw[C4A h1 a];exact⟨hf,hm⟩
theorem C1X(hc:(EK rules l fired)[k]?=some c)(h:MG fired c.Match.Rule c.Times=true):False:=by
 rw[(C4Y hc).1] at h;cases h
def C4I(l:List Match)(m:Match):Bool:=l.any (λx=>decide (x=m))
theorem C4W{l:List Match}{x:Match}(h:l[k]?=some x)(e:x=m):true=C4I l m:=by
 unfold C4I;exact(List.any_eq_true.2 ⟨x,List.mem_of_getElem? h,by simp[e]⟩).symm
theorem C4X{l:List Match}(h:∀i,i<l.length->∀x,l[i]?=some x->x≠m):false=C4I l m:=by
 unfold C4I;refine(List.any_eq_false.2 λx hx=>?_).symm;obtain⟨i,hi⟩:=List.getElem?_of_mem hx;have:=h i (lS hi) x hi;simp[this]
theorem C1Y(hc:(EK rules l fired)[k]?=some c)(h:C4I (DX rules (l.map Stamp.Fact)) c.Match=false):False:=by
 have:=(C4Y hc).2;unfold C4I at h;rw[List.any_eq_false] at h;exact h _ this (by simp)
end
end Go.Sy
end
/-
  Pairs of texts, compared.
  Conditions: those that each theorem states.
-/
section
namespace Go.Sy
open Go Go.RowKit
def C4J(P:Program)(t:TypeId):Bool:=
  (match P.underlying t with|some (.struct _)=>true|_=>false)&&(!P.stoodInHeld t&&(!P.eqGuardType P.depth t&&
  (match (P.fieldsOf t).toList with
   | [f,g]=>decide (f.name≠ "_")&&(decide (g.name≠ "_")&&(P.plainKey f.type&&(P.plainKey g.type&&((match P.underlying f.type with|some .string=>true|_=>false)&&((match P.underlying g.type with|some .string=>true|_=>false)&&(decide (f.offset=0)&&decide (g.offset=1)))))))
   |_=>false)))
section
variable {P:Program} {N:Nat} {w0:World} {H:List Chunk} {L:Fm} {o:Oper}
theorem C4e{t p:TypeId}{x y:Operand}{a b c d:ByteArray}(h:C4J P t=true)(q:o.op= .binOp .neq t x y p)(r:ev L x=some (.agg #[.string a, .string b]))(s:ev L y=some (.agg #[.string c, .string d])):C2 P N w0 H L o (.bool (!(decide (a=c/\b=d)))):=by
 intro ac w hf _;unfold C4J at h;rw[Bool.and_eq_true,Bool.and_eq_true,Bool.and_eq_true] at h;obtain⟨h1,v,z,i⟩:=h
 split at i
 ·rename_i f g e;simp only[Bool.and_eq_true,decide_eq_true_eq] at i;obtain⟨n1,n2,p1,p2,j,k,l,m⟩:=i;have u:P.underlying t=some (.struct (P.fieldsOf t)):=by
   unfold Program.fieldsOf
   split at h1
   ·rename_i fs hu;rw[hu]
   ·cases h1
  have q1:P.underlying f.type=some .string:=by
   split at j
   ·assumption
   ·cases j
  have n:P.underlying g.type=some .string:=by
   split at k
   ·assumption
   ·cases k
  have z2:P.stoodInHeld t=false:=by simpa using v
  have z3:P.eqGuardType P.depth t=false:=by simpa using z
  have g1:∀w,(part f.type #[Value.string a, .string b] f.offset).run P w= .ok (.string a) w:=λw=>run_part_plain (w:=w) p1 (by rw[l];rfl)
  have g2:∀w,(part g.type #[Value.string a, .string b] g.offset).run P w= .ok (.string b) w:=λw=>run_part_plain (w:=w) p2 (by rw[m];rfl)
  have g3:∀w,(part f.type #[Value.string c, .string d] f.offset).run P w= .ok (.string c) w:=λw=>run_part_plain (w:=w) p1 (by rw[l];rfl)
  have g4:∀w,(part g.type #[Value.string c, .string d] g.offset).run P w= .ok (.string d) w:=λw=>run_part_plain (w:=w) p2 (by rw[m];rfl)
  have key:∀w,(Op.equalIn 10000 t (.agg #[Value.string a, .string b]) (.agg #[Value.string c, .string d])).run P w= .ok (decide (a=c/\b=d)) w:=λw=>by
   rw[run_equalIn_agg w 9999 t _ _ u z2,e];simp only[Op.eqFields,n1,n2,ne_eq,not_false_eq_true,if_true,Sem.run_bind,g1,g2,g3,g4,Result.andThen_ok,run_equalIn_string w 9998 f.type a c q1,run_equalIn_string w 9998 g.type b d n];have e1:(a.toList==c.toList)=decide (a=c):=by rw[Bool.eq_iff_iff];simp[TL]
   have e2:(b.toList==d.toList)=decide (b=d):=by rw[Bool.eq_iff_iff];simp[TL]
   rw[e1]
   by_cases ha:a=c
   ·subst ha;simp only[decide_true,Bool.not_true,Bool.false_eq_true,if_false,Sem.run_bind,g2,g4,Result.andThen_ok,run_equalIn_string w 9998 g.type b d n,e2,true_and]
    by_cases hb:b=d<;>simp[hb]
   ·simp[ha]
  unfold execOp;rw[q];simp only[hf.ev r,hf.ev s];simp[run_eqGuard_agg (w:=w) _ _ _ _ _ _ z3,run_neq_struct,key]
 ·cases i
end
end Go.Sy
end
