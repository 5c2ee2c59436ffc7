/-
  Times of facts, choices: what they are; marks in matches and choices.
  Conditions: those that each theorem states.
-/
import Derived.Test.YtfmjgnjaoihefaaGreatDoorRul
import Derived.Test.YtfmjgnjaoihefaaGreatDoorNum
import Derived.Test.YtfmjgnjaoihefaaGreatDoorApm
import Derived.Test.YtfmjgnjaoihefaaGreatDoorTypes
namespace Go.Sy
open Go
instance:Flt Pair:=⟨λh=>by
 obtain⟨c1,c2,e,h1,h2⟩:=h;exact⟨c1,c2,[],[],e,rfl,⟨h1,rfl⟩,⟨h2,rfl⟩⟩⟩
def KE(p:Pair):Nat:=p.Var.size+p.Value.size
def KF(p:Pair):Prop:=VP p.Var/\VP p.Value
def DJ(m:Match):Nat:=m.Rule.size+DD F9 m.Facts+DD KE m.Binding
def UN(c:Choice):Nat:=DJ c.Match+c.Times.length
theorem UO{α:Type}{p:α->Bool}:∀{l:List α} {k:Nat} {x:α},l[k]?=some x->p x=true->(∀i,i<k->∀y,l[i]?=some y->p y=false)->l.find? p=some x
 | [],k,x,h,_,_=>by simp at h
 | y::l,0,x,h,hp,_=>by
  simp only[List.getElem?_cons_zero,Option.some.injEq] at h;subst h;simp[List.find?,hp]
 | y::l,k+1,x,h,hp,hi=>by
  simp only[List.getElem?_cons_succ] at h;have h0:=hi 0 (by omega) y rfl;simp only[List.find?,h0];exact UO h hp (λi hik z hz=>hi (i+1) (by omega) z (by simpa using hz))
theorem mP{α:Type}{p:α->Bool}{l:List α}(a:∀i,i<l.length->∀y,l[i]?=some y->p y=false):l.find? p=none:=by
 rw[List.find?_eq_none];intro x hx;obtain⟨i,h⟩:=List.getElem?_of_mem hx;simp[a i (List.getElem?_eq_some_iff.1 h).1 x h]
theorem A2D{l:List Int}{x y:Int}{k:Nat}(h:l[k]?=some y)(e:y=x):true=l.contains x:=by
 subst e;exact(List.contains_iff_mem.2 (List.mem_of_getElem? h)).symm
theorem A2E{l:List Int}{x:Int}(a:∀i,i<l.length->l[i]?≠some x):false=l.contains x:=by
 symm
 rw[Bool.eq_false_iff];intro h;obtain⟨i,e⟩:=List.getElem?_of_mem (List.contains_iff_mem.1 h);exact a i (List.getElem?_eq_some_iff.1 e).1 e
def mQ(l:List Stamp)(f:Fact):Option Stamp:=l.find? (λs=>decide (s.Fact=f))
def GG(l:List Stamp)(f:Fact):Int:=match mQ l f with|some s=>s.Time|none=>0
def K5(l:List Stamp)(f:Fact):Bool:=(mQ l f).isSome
theorem sK{l:List Stamp}{f:Fact}{k:Nat}{s:Stamp}(h:l[k]?=some s)(e:s.Fact=f)(a:∀i,i<k->∀y,l[i]?=some y->y.Fact≠f):mQ l f=some s:=
 UO h (by simp[e]) (λi hk y hy=>by simp[a i hk y hy])
theorem sM{l:List Stamp}{f:Fact}(a:∀i,i<l.length->∀y,l[i]?=some y->y.Fact≠f):mQ l f=none:=mP (λi hk y hy=>by simp[a i hk y hy])
theorem cW{l:List Stamp}{f:Fact}{k:Nat}{s:Stamp}(h:l[k]?=some s)(e:s.Fact=f)(a:∀i,i<k->∀y,l[i]?=some y->y.Fact≠f):s.Time=GG l f:=by unfold GG;rw[sK h e a]
theorem cX{l:List Stamp}{f:Fact}(a:∀i,i<l.length->∀y,l[i]?=some y->y.Fact≠f):0=GG l f:=by unfold GG;rw[sM a]
theorem xP{l:List Stamp}{f:Fact}{k:Nat}{s:Stamp}(h:l[k]?=some s)(e:s.Fact=f)(a:∀i,i<k->∀y,l[i]?=some y->y.Fact≠f):true=K5 l f:=by unfold K5;rw[sK h e a];rfl
theorem xQ{l:List Stamp}{f:Fact}(a:∀i,i<l.length->∀y,l[i]?=some y->y.Fact≠f):false=K5 l f:=by unfold K5;rw[sM a];rfl
theorem XM{l:List Stamp}(h:C5 l=true){s:Stamp}(a:s∈l):1<=s.Time/\s.Time<=200:=by
 obtain⟨i,hi⟩:=List.getElem?_of_mem a;simp only[C5,Bool.and_eq_true,List.all_eq_true] at h;have:=h.1 i (by simp only[List.mem_range];exact(List.getElem?_eq_some_iff.1 hi).1);simp only[HE,hi,Bool.and_eq_true,GO,decide_eq_true_eq] at this;omega
theorem cY{l:List Stamp}(h:C5 l=true)(f:Fact):K5 l f=decide (GG l f≠0)/\0<=GG l f/\GG l f<=200:=by
 unfold K5 GG
 cases e:mQ l f with
 |none=>simp
 | some s=>
  have:=XM h (List.mem_of_find?_eq_some e);simp;omega
def BJ(l:List Stamp)(fs:List Fact):List Int:=fs.map (GG l)
theorem XN{l:List Stamp}{fs:List Fact}{k:Nat}{f:Fact}(h:fs[k]?=some f):BJ l (fs.take k)++ [GG l f]=BJ l (fs.take (k+1)):=by
 unfold BJ;rw[A1 h,List.map_append];rfl
theorem SL(l:List Stamp)(fs:List Fact)(k:Nat):(BJ l (fs.take k)).length<=k:=by unfold BJ;rw[List.length_map,List.length_take];omega
theorem XO(l:List Stamp)(fs:List Fact):[]=BJ l (fs.take 0):=by simp[BJ]
def kB(l:List ByteArray):Nat:=(l.filter BA).length
def nS(x:Cond):Nat:=kB x.Pattern.Args
def GD(r:Rule):Nat:=r.If.length+AI nS r.If
theorem A0u{l:List ByteArray}{k:Nat}{a:ByteArray}(h:l[k]?=some a)(b:BA a=true):kB (l.take k)+1=kB (l.take (k+1)):=by unfold kB;rw[A1 h,List.filter_append];simp[b]
theorem A0v{l:List ByteArray}{k:Nat}{a:ByteArray}(h:l[k]?=some a)(b:BA a=false):kB (l.take k)=kB (l.take (k+1)):=by unfold kB;rw[A1 h,List.filter_append];simp[b]
theorem gK(l:List ByteArray):kB l<=l.length:=List.length_filter_le _ _
theorem kC{x:Cond}{k:Nat}(h:x.Pattern.Args.length<=k):kB (x.Pattern.Args.take k)=nS x:=by unfold nS;rw[List.take_of_length_le h]
theorem kD(l:List Cond):AI nS l<=AI BW l:=by
 induction l with
 |nil=>simp[AI]
 | cons x l ih=>
  simp only[AI,List.map_cons,List.sum_cons] at ih⊢;have h1:=gK x.Pattern.Args;have a:=BX x;have b:nS x=kB x.Pattern.Args:=rfl;omega
theorem cZ(l:List Cond)(k:Nat):AI nS (l.take k)<=AI nS l:=AV l nS k
def A2F(rules:List Rule)(m:Match):Rule:=(rules[(BN rules m.Rule).toNat]?).getD ⟨⟨#[]⟩,0,[],[]⟩
def z0C:Choice:=⟨⟨⟨#[]⟩,[],[]⟩,0,[],0,0⟩
def KG(rules:List Rule)(l:List Stamp)(m:Match):Bool:=decide (0<=BN rules m.Rule)&&m.Facts.all (K5 l)
def NP(rules:List Rule)(l:List Stamp)(m:Match):Choice:=⟨m,(A2F rules m).Priority,BJ l m.Facts,(GD (A2F rules m):Int),BN rules m.Rule⟩
def FU(rules:List Rule)(l:List Stamp)(m:Match):Choice:=if KG rules l m=true then NP rules l m else z0C
theorem ZM{rules:List Rule}{l:List Stamp}{m:Match}(h:BN rules m.Rule<0):KG rules l m=false:=by unfold KG;rw[decide_eq_false (by omega)];rfl
theorem gL{rules:List Rule}{l:List Stamp}{m:Match}{f:Fact}{i:Nat}(a:m.Facts[i]?=some f)(h:K5 l f=false):KG rules l m=false:=by
 unfold KG;have:m.Facts.all (K5 l)=false:=by
  rw[List.all_eq_false];exact⟨f,List.mem_of_getElem? a,by simp[h]⟩
 rw[this];simp
theorem sN{rules:List Rule}{l:List Stamp}{m:Match}(h0:0<=BN rules m.Rule)(a:∀i,i<m.Facts.length->∀f,m.Facts[i]?=some f->K5 l f=true):KG rules l m=true:=by
 unfold KG;rw[decide_eq_true h0];simp only[Bool.true_and,List.all_eq_true];intro f hf;obtain⟨i,h⟩:=List.getElem?_of_mem hf;exact a i (List.getElem?_eq_some_iff.1 h).1 f h
theorem ZN{rules:List Rule}{l:List Stamp}{m:Match}(h:KG rules l m=false):z0C=FU rules l m/\false=KG rules l m:=by simp[FU,h]
theorem gM{rules:List Rule}{l:List Stamp}{m:Match}{r:Rule}(h:KG rules l m=true)(a:rules[(BN rules m.Rule).toNat]?=some r):(⟨m,r.Priority,BJ l m.Facts,(GD r:Int),BN rules m.Rule⟩:Choice)=FU rules l m/\true=KG rules l m:=by
 simp[FU,h,NP,A2F,a]
def G9(rules:List Rule)(l:List Stamp)(m:Match):Bool:=AR rules&&C5 l&&KG rules l m
def CW(rules:List Rule)(l:List Stamp)(m:Match):Choice:=if G9 rules l m=true then NP rules l m else z0C
theorem PN{rules:List Rule}{l:List Stamp}{m:Match}(h:AR rules=false\/C5 l=false\/KG rules l m=false):z0C=CW rules l m/\false=G9 rules l m:=by
 rcases h with h|h|h<;>simp[CW,G9,h]
theorem A2G{rules:List Rule}{l:List Stamp}{m:Match}(h1:AR rules=true)(a:C5 l=true):FU rules l m=CW rules l m/\KG rules l m=G9 rules l m:=by simp[CW,G9,FU,h1,a]
theorem sO{rules:List Rule}{l:List Stamp}{m:Match}{r:Rule}(h1:AR rules=true)(a:C5 l=true)(c:0<=BN rules m.Rule)(d:(BJ l m.Facts).contains 0=false)(g:rules[(BN rules m.Rule).toNat]?=some r):(⟨m,r.Priority,BJ l m.Facts,(GD r:Int),BN rules m.Rule⟩:Choice)=CW rules l m/\true=G9 rules l m:=by
 have hy:KG rules l m=true:=sN c (λi hi f hf=>by
  rw[(cY a f).1];rw[decide_eq_true_eq];intro e;have:(BJ l m.Facts).contains 0=true:=List.contains_iff_mem.2 (by
   rw[<-e];exact List.mem_map_of_mem (List.mem_of_getElem? hf))
  rw[d] at this;cases this)
 have:=gM hy g;have b:=A2G (m:=m) h1 a;exact⟨this.1.trans b.1,this.2.trans b.2⟩
theorem sP{rules:List Rule}{l:List Stamp}{m:Match}(a:C5 l=true)(b:(BJ l m.Facts).contains 0=true):z0C=CW rules l m/\false=G9 rules l m:=by
 refine PN (.inr (.inr ?_));obtain⟨f,hf,e⟩:=List.mem_map.1 (List.contains_iff_mem.1 b);obtain⟨i,hi⟩:=List.getElem?_of_mem hf;exact gL hi (by rw[(cY a f).1,e];simp)
def ZO(k:Int)(f:Fact):Fact:=⟨B4 k,J8 (k+1) f.Args⟩
def IE(f:Fact):Nat:=1+f.Args.length
theorem sQ(k:Int)(x:Fact):IE (ZO k x)=IE x:=by simp[IE,ZO,H8]
abbrev A5f(k:Int)(l:List Fact):List Fact:=CP ZO IE k l
def dA(k:Int)(_:Pair):Pair:=⟨B4 k,B4 (k+1)⟩
def JF(_:Pair):Nat:=2
theorem sR(k:Int)(x:Pair):JF (dA k x)=JF x:=rfl
abbrev A5h(k:Int)(l:List Pair):List Pair:=CP dA JF k l
theorem xR(l:List Fact):AI IE l<=4*DD F9 l:=by
 have:=MD (c:=IE) (d:=F9) (m:=1) (λx=>by unfold IE F9 M9;omega) l;unfold DD;omega
theorem xS(l:List Pair):AI JF l<=4*DD KE l:=by
 have:=MD (c:=JF) (d:=KE) (m:=2) (λx=>by unfold JF;omega) l;unfold DD;omega
theorem xT(l:List Stamp):AI N9 l<=4*DD CM l:=by
 have:=MD (c:=N9) (d:=CM) (m:=2) (λx=>by unfold N9 CM F9 M9;omega) l;unfold DD;omega
end Go.Sy
namespace Go.Sy
open Go
theorem xU(l:List Firing):AI QH l<=4*DD DG l:=by
 have:=MD (c:=QH) (d:=DG) (m:=1) (λx=>by unfold QH DG;omega) l;unfold DD;omega
theorem xV(l:List Event):AI TA l<=4*DD L9 l:=by
 have:=MD (c:=TA) (d:=L9) (m:=3) (λx=>by unfold TA L9 F9 M9;omega) l;unfold DD;omega
theorem A2H(e:Engine):cEn e<=4*DI e:=by
 have h1:=xD e.Rules;have a:=xT e.Memory;have b:=xU e.Fired;have c:=xV e.Log;unfold cEn DI;omega
end Go.Sy
