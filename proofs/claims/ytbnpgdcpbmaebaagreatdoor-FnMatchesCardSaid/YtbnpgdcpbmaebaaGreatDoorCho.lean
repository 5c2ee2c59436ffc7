/-
  Times of facts, choices: what they are; marks in matches and choices.
  Conditions: those that each theorem states.
-/
import Derived.Test.YtbnpgdcpbmaebaaGreatDoorRul
import Derived.Test.YtbnpgdcpbmaebaaGreatDoorNum
import Derived.Test.YtbnpgdcpbmaebaaGreatDoorApm
import Derived.Test.YtbnpgdcpbmaebaaGreatDoorTypes
namespace Go.Sy
open Go
instance:Flt Pair:=⟨λh=>by
 obtain⟨c1,c2,e,h1,h2⟩:=h;exact⟨c1,c2,[],[],e,rfl,⟨h1,rfl⟩,⟨h2,rfl⟩⟩⟩
def KE(p:Pair):Nat:=p.Var.size+p.Value.size
def KF(p:Pair):Prop:=VP p.Var/\VP p.Value
def mQ(l:List Stamp)(f:Fact):Option Stamp:=l.find? (λs=>decide (s.Fact=f))
def GG(l:List Stamp)(f:Fact):Int:=match mQ l f with|some s=>s.Time|none=>0
def K5(l:List Stamp)(f:Fact):Bool:=(mQ l f).isSome
theorem XM{l:List Stamp}(h:C5 l=true){s:Stamp}(a:s∈l):1<=s.Time/\s.Time<=200:=by
 obtain⟨i,hi⟩:=List.getElem?_of_mem a;simp only[C5,Bool.and_eq_true,List.all_eq_true] at h;have:=h.1 i (by simp only[List.mem_range];exact(List.getElem?_eq_some_iff.1 hi).1);simp only[HE,hi,Bool.and_eq_true,GO,decide_eq_true_eq] at this;omega
def BJ(l:List Stamp)(fs:List Fact):List Int:=fs.map (GG l)
def kB(l:List ByteArray):Nat:=(l.filter BA).length
def nS(x:Cond):Nat:=kB x.Pattern.Args
def GD(r:Rule):Nat:=r.If.length+AI nS r.If
def A2F(rules:List Rule)(m:Match):Rule:=(rules[(BN rules m.Rule).toNat]?).getD ⟨⟨#[]⟩,0,[],[]⟩
def z0C:Choice:=⟨⟨⟨#[]⟩,[],[]⟩,0,[],0,0⟩
def NP(rules:List Rule)(l:List Stamp)(m:Match):Choice:=⟨m,(A2F rules m).Priority,BJ l m.Facts,(GD (A2F rules m):Int),BN rules m.Rule⟩
end Go.Sy
namespace Go.Sy
open Go
def A9J(f:Fact)(s:Stamp)(p:List Stamp × Bool)(x:Stamp):List Stamp × Bool:=(if (!p.2&&decide (0<HS x.Fact f))=true then p.1++ [s]++ [x] else p.1++ [x],p.2||decide (0<HS x.Fact f))
def A8S(f:Fact)(s:Stamp)(l:List Stamp)(k:Nat):List Stamp × Bool:=(l.take k).foldl (A9J f s) ([],false)
def B1Y(f:Fact)(s:Stamp)(l:List Stamp):List Stamp:=if (A8S f s l l.length).2=true then(A8S f s l l.length).1 else(A8S f s l l.length).1++ [s]
def A8J(e:Engine)(f:Fact)(kind:Int)(rule:ByteArray):Engine:=⟨e.Rules,B1Y f ⟨f,e.Clock+1⟩ e.Memory,e.Clock+1,e.Fired,e.Halted,e.Log++ [⟨kind,rule,f⟩]⟩
def drL(l:List Stamp)(f:Fact):List Stamp:=l.filter (λx=> !decide (x.Fact=f))
def A8G(e:Engine)(f:Fact)(kind:Int)(rule:ByteArray):Engine:=⟨e.Rules,drL e.Memory f,e.Clock,e.Fired,e.Halted,e.Log++ [⟨kind,rule,f⟩]⟩
def A8Z(e:Engine)(f:Fact):Bool:=HT e&&BI f&& !K5 e.Memory f&&decide (e.Memory.length<24)&&decide (e.Clock<200)&&decide (e.Log.length<500)
def A8D(e:Engine)(f:Fact):Engine:=if A8Z e f=true then A8J e f 1 ⟨#[]⟩ else e
def A8g(e:Engine)(f:Fact):Bool:=HT e&&K5 e.Memory f&&decide (e.Log.length<500)
def A8E(e:Engine)(f:Fact):Engine:=if A8g e f=true then A8G e f 2 ⟨#[]⟩ else e
end Go.Sy
