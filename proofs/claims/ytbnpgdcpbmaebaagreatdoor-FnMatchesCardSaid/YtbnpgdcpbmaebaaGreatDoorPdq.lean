/-
  Rows that are sorted by exchanges: what the parts of the library's quicksort leave, as plain facts on lists.
  Conditions: those that each theorem states.
-/
import Derived.Test.YtbnpgdcpbmaebaaGreatDoorSort
import Derived.Test.YtbnpgdcpbmaebaaGreatDoorOwn2
import Derived.Laws.MathBits
import Derived.Lib.BitFns
namespace Go.Sy
section
variable {α:Type} [Inhabited α] {lt:α->α->Bool}
theorem Chg.get{d e:List α}{a b:Nat}(h:Chg d e a b){φ:α->Prop}(hp:∀p,a<=p->p<b->φ (A d p)):∀p,a<=p->p<b->φ (A e p):=λp h1 c=>by
 obtain⟨j,f,g,i⟩:=h.mem p h1 c;rw[i];exact hp j f g
def Sft(lt:α->α->Bool)(d:List α)(f lo hi r:Nat):Prop:=(∀p c,lo<=p->p≠r->(c=2*p+1\/c=2*p+2)->c<hi->lt (A d (f+p)) (A d (f+c))=false)/\
 (∀p c,lo<=p->(r=2*p+1\/r=2*p+2)->(c=2*r+1\/c=2*r+2)->c<hi->lt (A d (f+p)) (A d (f+c))=false)
theorem Sft.at{d:List α}{f lo a r b:Nat}(h:Sft lt d f lo a r)(e:r=b):Sft lt d f lo a b:=e▸h
end
end Go.Sy
namespace Go.Sy
open Go Go.RowKit
structure Srx {α:Type} [Inhabited α] (P:Program) (C:List α->Chunk) (lt:α->α->Bool) (d0:List α) (dv:Value) (w0:World):Prop where
  len:∀(Hs:List Chunk) (w:World) (d:List α),List.Perm d d0->St w0 (C d::Hs) w->∃f as,AA P f=true/\(callMethod dv "Len" #[]).run P w=(callFunc f as).run P w/\Calls P f as w (λe w'=>e= .returned (.int .i64 (d0.length:Int))/\St w0 (C d::Hs) w')
  less:∀(Hs:List Chunk) (w:World) (d:List α) (i j:Nat),List.Perm d d0->i<d0.length->j<d0.length->St w0 (C d::Hs) w->
    ∃f as,AA P f=true/\(callMethod dv "Less" #[Value.int .i64 (i:Int),Value.int .i64 (j:Int)]).run P w=(callFunc f as).run P w/\Calls P f as w (λe w'=>e= .returned (.bool (lt (A d i) (A d j)))/\St w0 (C d::Hs) w')
  swap:∀(Hs:List Chunk) (w:World) (d:List α) (i j:Nat),List.Perm d d0->i<d0.length->j<d0.length->St w0 (C d::Hs) w->
    ∃f as,AA P f=true/\(callMethod dv "Swap" #[Value.int .i64 (i:Int),Value.int .i64 (j:Int)]).run P w=(callFunc f as).run P w/\Calls P f as w (λe w'=>e= .returned (.tuple #[])/\St w0 (C (swp d i j)::Hs) w')
section
variable {P:Program} {N:Nat} {w0:World} {H:List Chunk} {L:Fm} {Q:Exit->Act->World->Prop} {o:Oper} {dd:Nat} {K:Act->World->Prop}
section
variable {α:Type} [Inhabited α] {C:List α->Chunk} {lt:α->α->Bool} {d0 d:List α} {dv:Value}
end
end
end Go.Sy
namespace Go.Sy
open Go Go.RowKit
section
variable {P:Program} {N:Nat} {w0:World} {H:List Chunk} {L:Fm} {Q:Exit->Act->World->Prop} {o:Oper} {dd:Nat} {K:Act->World->Prop} {c1 c2:Chunk}
end
abbrev tG(x y:Int):Bool:=decide (y<x)
def AP(l:List Int):List Int:=MR tG l
end Go.Sy
