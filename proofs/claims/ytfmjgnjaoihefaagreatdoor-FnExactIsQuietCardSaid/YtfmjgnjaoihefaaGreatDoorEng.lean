/-
  Engines and their parts: sizes and bounds.
  Conditions: none.
-/
import Derived.Test.YtfmjgnjaoihefaaGreatDoorEv
namespace Go.Sy
def DD{α:Type}(c:α->Nat)(l:List α):Nat:=l.length+AI c l
def LR{α:Type}(p:α->Prop)(l:List α):Prop:=∀x∈l,p x
theorem C8{α:Type}{c:α->Nat}{l:List α}{x:α}(h:x∈l):c x<=AI c l:=VO (List.mem_map_of_mem h)
def E8(p:Pattern):Nat:=p.Rel.size+M9 p.Args
def IP(p:Pattern):Prop:=VP p.Rel/\A1i p.Args
def BW(x:Cond):Nat:=E8 x.Pattern+x.Left.size+x.Right.size
def LB(x:Cond):Prop:=okI x.Kind/\IP x.Pattern/\VP x.Left/\VP x.Right
def CV(x:Action):Nat:=E8 x.Pattern
def QB(x:Action):Prop:=okI x.Kind/\IP x.Pattern
def BG(r:Rule):Nat:=r.Name.size+DD BW r.If+DD CV r.Then
def H9(r:Rule):Prop:=VP r.Name/\okI r.Priority/\LR LB r.If/\LR QB r.Then
def CM(s:Stamp):Nat:=F9 s.Fact
def MA(s:Stamp):Prop:=P9 s.Fact/\okI s.Time
def DG(f:Firing):Nat:=f.Rule.size+f.Times.length
def TX(f:Firing):Prop:=VP f.Rule/\LR okI f.Times
def DI(e:Engine):Nat:=DD BG e.Rules+DD CM e.Memory+DD DG e.Fired+DD L9 e.Log
def QC(e:Engine):Prop:=LR H9 e.Rules/\LR MA e.Memory/\okI e.Clock/\LR TX e.Fired/\True/\LR wK e.Log
end Go.Sy
