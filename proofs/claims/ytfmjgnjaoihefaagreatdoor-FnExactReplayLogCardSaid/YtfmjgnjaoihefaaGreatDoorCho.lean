/-
  Times of facts, choices: what they are; marks in matches and choices.
  Conditions: those that each theorem states.
-/
import Derived.Test.YtfmjgnjaoihefaaGreatDoorRul
import Derived.Test.YtfmjgnjaoihefaaGreatDoorNum
import Derived.Test.YtfmjgnjaoihefaaGreatDoorApm
import Derived.Test.YtfmjgnjaoihefaaGreatDoorTypes
namespace Go.Sy
open Go
instance:Flt Pair:=⟨λh=>by
 obtain⟨c1,c2,e,h1,h2⟩:=h;exact⟨c1,c2,[],[],e,rfl,⟨h1,rfl⟩,⟨h2,rfl⟩⟩⟩
def KE(p:Pair):Nat:=p.Var.size+p.Value.size
def KF(p:Pair):Prop:=VP p.Var/\VP p.Value
def DJ(m:Match):Nat:=m.Rule.size+DD F9 m.Facts+DD KE m.Binding
theorem UO{α:Type}{p:α->Bool}:∀{l:List α} {k:Nat} {x:α},l[k]?=some x->p x=true->(∀i,i<k->∀y,l[i]?=some y->p y=false)->l.find? p=some x
 | [],k,x,h,_,_=>by simp at h
 | y::l,0,x,h,hp,_=>by
  simp only[List.getElem?_cons_zero,Option.some.injEq] at h;subst h;simp[List.find?,hp]
 | y::l,k+1,x,h,hp,hi=>by
  simp only[List.getElem?_cons_succ] at h;have h0:=hi 0 (by omega) y rfl;simp only[List.find?,h0];exact UO h hp (λi hik z hz=>hi (i+1) (by omega) z (by simpa using hz))
theorem mP{α:Type}{p:α->Bool}{l:List α}(a:∀i,i<l.length->∀y,l[i]?=some y->p y=false):l.find? p=none:=by
 rw[List.find?_eq_none];intro x hx;obtain⟨i,h⟩:=List.getElem?_of_mem hx;simp[a i (List.getElem?_eq_some_iff.1 h).1 x h]
theorem A2D{l:List Int}{x y:Int}{k:Nat}(h:l[k]?=some y)(e:y=x):true=l.contains x:=by
 subst e;exact(List.contains_iff_mem.2 (List.mem_of_getElem? h)).symm
theorem A2E{l:List Int}{x:Int}(a:∀i,i<l.length->l[i]?≠some x):false=l.contains x:=by
 symm
 rw[Bool.eq_false_iff];intro h;obtain⟨i,e⟩:=List.getElem?_of_mem (List.contains_iff_mem.1 h);exact a i (List.getElem?_eq_some_iff.1 e).1 e
def mQ(l:List Stamp)(f:Fact):Option Stamp:=l.find? (λs=>decide (s.Fact=f))
def GG(l:List Stamp)(f:Fact):Int:=match mQ l f with|some s=>s.Time|none=>0
def K5(l:List Stamp)(f:Fact):Bool:=(mQ l f).isSome
theorem sK{l:List Stamp}{f:Fact}{k:Nat}{s:Stamp}(h:l[k]?=some s)(e:s.Fact=f)(a:∀i,i<k->∀y,l[i]?=some y->y.Fact≠f):mQ l f=some s:=
 UO h (by simp[e]) (λi hk y hy=>by simp[a i hk y hy])
theorem sM{l:List Stamp}{f:Fact}(a:∀i,i<l.length->∀y,l[i]?=some y->y.Fact≠f):mQ l f=none:=mP (λi hk y hy=>by simp[a i hk y hy])
theorem cW{l:List Stamp}{f:Fact}{k:Nat}{s:Stamp}(h:l[k]?=some s)(e:s.Fact=f)(a:∀i,i<k->∀y,l[i]?=some y->y.Fact≠f):s.Time=GG l f:=by unfold GG;rw[sK h e a]
theorem cX{l:List Stamp}{f:Fact}(a:∀i,i<l.length->∀y,l[i]?=some y->y.Fact≠f):0=GG l f:=by unfold GG;rw[sM a]
theorem xP{l:List Stamp}{f:Fact}{k:Nat}{s:Stamp}(h:l[k]?=some s)(e:s.Fact=f)(a:∀i,i<k->∀y,l[i]?=some y->y.Fact≠f):true=K5 l f:=by unfold K5;rw[sK h e a];rfl
theorem xQ{l:List Stamp}{f:Fact}(a:∀i,i<l.length->∀y,l[i]?=some y->y.Fact≠f):false=K5 l f:=by unfold K5;rw[sM a];rfl
theorem XM{l:List Stamp}(h:C5 l=true){s:Stamp}(a:s∈l):1<=s.Time/\s.Time<=200:=by
 obtain⟨i,hi⟩:=List.getElem?_of_mem a;simp only[C5,Bool.and_eq_true,List.all_eq_true] at h;have:=h.1 i (by simp only[List.mem_range];exact(List.getElem?_eq_some_iff.1 hi).1);simp only[HE,hi,Bool.and_eq_true,GO,decide_eq_true_eq] at this;omega
theorem cY{l:List Stamp}(h:C5 l=true)(f:Fact):K5 l f=decide (GG l f≠0)/\0<=GG l f/\GG l f<=200:=by
 unfold K5 GG
 cases e:mQ l f with
 |none=>simp
 | some s=>
  have:=XM h (List.mem_of_find?_eq_some e);simp;omega
def BJ(l:List Stamp)(fs:List Fact):List Int:=fs.map (GG l)
theorem XN{l:List Stamp}{fs:List Fact}{k:Nat}{f:Fact}(h:fs[k]?=some f):BJ l (fs.take k)++ [GG l f]=BJ l (fs.take (k+1)):=by
 unfold BJ;rw[A1 h,List.map_append];rfl
theorem SL(l:List Stamp)(fs:List Fact)(k:Nat):(BJ l (fs.take k)).length<=k:=by unfold BJ;rw[List.length_map,List.length_take];omega
theorem XO(l:List Stamp)(fs:List Fact):[]=BJ l (fs.take 0):=by simp[BJ]
def kB(l:List ByteArray):Nat:=(l.filter BA).length
def nS(x:Cond):Nat:=kB x.Pattern.Args
def GD(r:Rule):Nat:=r.If.length+AI nS r.If
theorem A0u{l:List ByteArray}{k:Nat}{a:ByteArray}(h:l[k]?=some a)(b:BA a=true):kB (l.take k)+1=kB (l.take (k+1)):=by unfold kB;rw[A1 h,List.filter_append];simp[b]
theorem A0v{l:List ByteArray}{k:Nat}{a:ByteArray}(h:l[k]?=some a)(b:BA a=false):kB (l.take k)=kB (l.take (k+1)):=by unfold kB;rw[A1 h,List.filter_append];simp[b]
theorem gK(l:List ByteArray):kB l<=l.length:=List.length_filter_le _ _
theorem kC{x:Cond}{k:Nat}(h:x.Pattern.Args.length<=k):kB (x.Pattern.Args.take k)=nS x:=by unfold nS;rw[List.take_of_length_le h]
theorem kD(l:List Cond):AI nS l<=AI BW l:=by
 induction l with
 |nil=>simp[AI]
 | cons x l ih=>
  simp only[AI,List.map_cons,List.sum_cons] at ih⊢;have h1:=gK x.Pattern.Args;have a:=BX x;have b:nS x=kB x.Pattern.Args:=rfl;omega
theorem cZ(l:List Cond)(k:Nat):AI nS (l.take k)<=AI nS l:=AV l nS k
def A2F(rules:List Rule)(m:Match):Rule:=(rules[(BN rules m.Rule).toNat]?).getD ⟨⟨#[]⟩,0,[],[]⟩
def z0C:Choice:=⟨⟨⟨#[]⟩,[],[]⟩,0,[],0,0⟩
def KG(rules:List Rule)(l:List Stamp)(m:Match):Bool:=decide (0<=BN rules m.Rule)&&m.Facts.all (K5 l)
def NP(rules:List Rule)(l:List Stamp)(m:Match):Choice:=⟨m,(A2F rules m).Priority,BJ l m.Facts,(GD (A2F rules m):Int),BN rules m.Rule⟩
def FU(rules:List Rule)(l:List Stamp)(m:Match):Choice:=if KG rules l m=true then NP rules l m else z0C
theorem ZM{rules:List Rule}{l:List Stamp}{m:Match}(h:BN rules m.Rule<0):KG rules l m=false:=by unfold KG;rw[decide_eq_false (by omega)];rfl
theorem gL{rules:List Rule}{l:List Stamp}{m:Match}{f:Fact}{i:Nat}(a:m.Facts[i]?=some f)(h:K5 l f=false):KG rules l m=false:=by
 unfold KG;have:m.Facts.all (K5 l)=false:=by
  rw[List.all_eq_false];exact⟨f,List.mem_of_getElem? a,by simp[h]⟩
 rw[this];simp
theorem sN{rules:List Rule}{l:List Stamp}{m:Match}(h0:0<=BN rules m.Rule)(a:∀i,i<m.Facts.length->∀f,m.Facts[i]?=some f->K5 l f=true):KG rules l m=true:=by
 unfold KG;rw[decide_eq_true h0];simp only[Bool.true_and,List.all_eq_true];intro f hf;obtain⟨i,h⟩:=List.getElem?_of_mem hf;exact a i (List.getElem?_eq_some_iff.1 h).1 f h
theorem ZN{rules:List Rule}{l:List Stamp}{m:Match}(h:KG rules l m=false):z0C=FU rules l m/\false=KG rules l m:=by simp[FU,h]
theorem gM{rules:List Rule}{l:List Stamp}{m:Match}{r:Rule}(h:KG rules l m=true)(a:rules[(BN rules m.Rule).toNat]?=some r):(⟨m,r.Priority,BJ l m.Facts,(GD r:Int),BN rules m.Rule⟩:Choice)=FU rules l m/\true=KG rules l m:=by
 simp[FU,h,NP,A2F,a]
def G9(rules:List Rule)(l:List Stamp)(m:Match):Bool:=AR rules&&C5 l&&KG rules l m
def CW(rules:List Rule)(l:List Stamp)(m:Match):Choice:=if G9 rules l m=true then NP rules l m else z0C
theorem PN{rules:List Rule}{l:List Stamp}{m:Match}(h:AR rules=false\/C5 l=false\/KG rules l m=false):z0C=CW rules l m/\false=G9 rules l m:=by
 rcases h with h|h|h<;>simp[CW,G9,h]
theorem A2G{rules:List Rule}{l:List Stamp}{m:Match}(h1:AR rules=true)(a:C5 l=true):FU rules l m=CW rules l m/\KG rules l m=G9 rules l m:=by simp[CW,G9,FU,h1,a]
theorem sO{rules:List Rule}{l:List Stamp}{m:Match}{r:Rule}(h1:AR rules=true)(a:C5 l=true)(c:0<=BN rules m.Rule)(d:(BJ l m.Facts).contains 0=false)(g:rules[(BN rules m.Rule).toNat]?=some r):(⟨m,r.Priority,BJ l m.Facts,(GD r:Int),BN rules m.Rule⟩:Choice)=CW rules l m/\true=G9 rules l m:=by
 have hy:KG rules l m=true:=sN c (λi hi f hf=>by
  rw[(cY a f).1];rw[decide_eq_true_eq];intro e;have:(BJ l m.Facts).contains 0=true:=List.contains_iff_mem.2 (by
   rw[<-e];exact List.mem_map_of_mem (List.mem_of_getElem? hf))
  rw[d] at this;cases this)
 have:=gM hy g;have b:=A2G (m:=m) h1 a;exact⟨this.1.trans b.1,this.2.trans b.2⟩
theorem sP{rules:List Rule}{l:List Stamp}{m:Match}(a:C5 l=true)(b:(BJ l m.Facts).contains 0=true):z0C=CW rules l m/\false=G9 rules l m:=by
 refine PN (.inr (.inr ?_));obtain⟨f,hf,e⟩:=List.mem_map.1 (List.contains_iff_mem.1 b);obtain⟨i,hi⟩:=List.getElem?_of_mem hf;exact gL hi (by rw[(cY a f).1,e];simp)
theorem xT(l:List Stamp):AI N9 l<=4*DD CM l:=by
 have:=MD (c:=N9) (d:=CM) (m:=2) (λx=>by unfold N9 CM F9 M9;omega) l;unfold DD;omega
end Go.Sy
namespace Go.Sy
open Go
def A9J(f:Fact)(s:Stamp)(p:List Stamp × Bool)(x:Stamp):List Stamp × Bool:=(if (!p.2&&decide (0<HS x.Fact f))=true then p.1++ [s]++ [x] else p.1++ [x],p.2||decide (0<HS x.Fact f))
def A8S(f:Fact)(s:Stamp)(l:List Stamp)(k:Nat):List Stamp × Bool:=(l.take k).foldl (A9J f s) ([],false)
theorem B0E{f:Fact}{s x:Stamp}{l:List Stamp}{k:Nat}(h:l[k]?=some x):A8S f s l (k+1)=A9J f s (A8S f s l k) x:=by
 unfold A8S;rw[A1 h,List.foldl_append];rfl
theorem B2E(f:Fact)(s:Stamp)(l:List Stamp):[]=(A8S f s l 0).1:=by simp[A8S]
theorem A9T{f:Fact}{s x:Stamp}{l:List Stamp}{k:Nat}(h:l[k]?=some x)(hd:(A8S f s l k).2=false)(hc:0<HS x.Fact f):(A8S f s l k).1++ [s]++ [x]=(A8S f s l (k+1)).1:=by rw[B0E h];simp[A9J,hd,hc]
theorem A9j{f:Fact}{s x:Stamp}{l:List Stamp}{k:Nat}(h:l[k]?=some x)(hc:¬0<HS x.Fact f):(A8S f s l k).1++ [x]=(A8S f s l (k+1)).1:=by rw[B0E h];simp[A9J,hc]
theorem A9k{f:Fact}{s x:Stamp}{l:List Stamp}{k:Nat}(h:l[k]?=some x)(hd:(A8S f s l k).2=true):(A8S f s l k).1++ [x]=(A8S f s l (k+1)).1:=by rw[B0E h];simp[A9J,hd]
theorem A9l{f:Fact}{s x:Stamp}{l:List Stamp}{k:Nat}(h:l[k]?=some x)(hc:0<HS x.Fact f):true=(A8S f s l (k+1)).2:=by rw[B0E h];simp[A9J,hc]
theorem B2W{f:Fact}{s x:Stamp}{l:List Stamp}{k:Nat}(h:l[k]?=some x)(hd:(A8S f s l k).2=true):true=(A8S f s l (k+1)).2:=by rw[B0E h];simp[A9J,hd]
theorem B2X{f:Fact}{s x:Stamp}{l:List Stamp}{k:Nat}(h:l[k]?=some x)(hd:(A8S f s l k).2=false)(hc:¬0<HS x.Fact f):false=(A8S f s l (k+1)).2:=by rw[B0E h];simp[A9J,hd,hc]
theorem A9U{f:Fact}{s x:Stamp}{l:List Stamp}{k:Nat}{b:Bool}(h:l[k]?=some x)(hd:b=(A8S f s l k).2)(hb:b=true):b=(A8S f s l (k+1)).2:=by rw[hb];exact B2W h (hd.symm.trans hb)
theorem A9V{f:Fact}{s x:Stamp}{l:List Stamp}{k:Nat}{b:Bool}(h:l[k]?=some x)(hd:b=(A8S f s l k).2)(hb:b=false)(hc:¬0<HS x.Fact f):b=(A8S f s l (k+1)).2:=by rw[hb];exact B2X h (hd.symm.trans hb) hc
theorem B1N(f:Fact)(s:Stamp):∀(l:List Stamp) (p:List Stamp × Bool),(l.foldl (A9J f s) p).1.length<=p.1.length+2*l.length
 | [],p=>by simp
 | x::l,p=>by
  have ih:=B1N f s l (A9J f s p x);have h1:(A9J f s p x).1.length<=p.1.length+2:=by
   unfold A9J;simp only
   split<;>simp
  simp only[List.foldl_cons,List.length_cons];omega
theorem B1O(f:Fact)(s:Stamp)(l:List Stamp)(k:Nat):(A8S f s l k).1.length<=2*k:=by
 have:=B1N f s (l.take k) ([],false);have a:(l.take k).length<=k:=by rw[List.length_take];omega
 unfold A8S;simp only[List.length_nil] at this;omega
def B1Y(f:Fact)(s:Stamp)(l:List Stamp):List Stamp:=if (A8S f s l l.length).2=true then(A8S f s l l.length).1 else(A8S f s l l.length).1++ [s]
theorem B0w{f:Fact}{s:Stamp}{l:List Stamp}{k:Nat}(h1:k<=l.length)(a:l.length<=k)(hd:(A8S f s l k).2=true):(A8S f s l k).1=B1Y f s l:=by
 have e:k=l.length:=by omega
 subst e;simp[B1Y,hd]
theorem B0x{f:Fact}{s:Stamp}{l:List Stamp}{k:Nat}(h1:k<=l.length)(a:l.length<=k)(hd:(A8S f s l k).2=false):(A8S f s l k).1++ [s]=B1Y f s l:=by
 have e:k=l.length:=by omega
 subst e;simp[B1Y,hd]
def wrE(e:Engine)(kind:Int)(rule:ByteArray)(f:Fact):Engine:=⟨e.Rules,e.Memory,e.Clock,e.Fired,e.Halted,e.Log++ [⟨kind,rule,f⟩]⟩
def A8J(e:Engine)(f:Fact)(kind:Int)(rule:ByteArray):Engine:=⟨e.Rules,B1Y f ⟨f,e.Clock+1⟩ e.Memory,e.Clock+1,e.Fired,e.Halted,e.Log++ [⟨kind,rule,f⟩]⟩
def drL(l:List Stamp)(f:Fact):List Stamp:=l.filter (λx=> !decide (x.Fact=f))
def A8G(e:Engine)(f:Fact)(kind:Int)(rule:ByteArray):Engine:=⟨e.Rules,drL e.Memory f,e.Clock,e.Fired,e.Halted,e.Log++ [⟨kind,rule,f⟩]⟩
theorem B2p(l:List Stamp)(f:Fact):[]=drL (l.take 0) f:=by simp[drL]
theorem B1f{l:List Stamp}{f:Fact}{k:Nat}{x:Stamp}(h:l[k]?=some x)(e:x.Fact≠f):drL (l.take k) f++ [x]=drL (l.take (k+1)) f:=by unfold drL;rw[A1 h,List.filter_append];simp[e]
theorem B1g{l:List Stamp}{f:Fact}{k:Nat}{x:Stamp}(h:l[k]?=some x)(e:x.Fact=f):drL (l.take k) f=drL (l.take (k+1)) f:=by unfold drL;rw[A1 h,List.filter_append];simp[e]
theorem B1h(l:List Stamp)(f:Fact)(k:Nat):(drL (l.take k) f).length<=k:=by
 have h1:=List.length_filter_le (λx:Stamp=> !decide (x.Fact=f)) (l.take k);have a:(l.take k).length<=k:=by rw[List.length_take];omega
 unfold drL;omega
theorem B1i{l:List Stamp}{f:Fact}{k:Nat}(h:l.length<=k):drL (l.take k) f=drL l f:=by rw[List.take_of_length_le h]
def A8Z(e:Engine)(f:Fact):Bool:=HT e&&BI f&& !K5 e.Memory f&&decide (e.Memory.length<24)&&decide (e.Clock<200)&&decide (e.Log.length<500)
def A8D(e:Engine)(f:Fact):Engine:=if A8Z e f=true then A8J e f 1 ⟨#[]⟩ else e
def A8g(e:Engine)(f:Fact):Bool:=HT e&&K5 e.Memory f&&decide (e.Log.length<500)
def A8E(e:Engine)(f:Fact):Engine:=if A8g e f=true then A8G e f 2 ⟨#[]⟩ else e
theorem A8r{e:Engine}{f:Fact}(h:A8Z e f=true):A8J e f 1 ⟨#[]⟩=A8D e f/\true=A8Z e f:=by simp[A8D,h]
theorem A8v{e:Engine}{f:Fact}(h:A8Z e f=false):e=A8D e f/\false=A8Z e f:=by simp[A8D,h]
theorem A8s{e:Engine}{f:Fact}(h:A8g e f=true):A8G e f 2 ⟨#[]⟩=A8E e f/\true=A8g e f:=by simp[A8E,h]
theorem A8w{e:Engine}{f:Fact}(h:A8g e f=false):e=A8E e f/\false=A8g e f:=by simp[A8E,h]
theorem A8H{e:Engine}(h:HT e=true):C5 e.Memory=true/\AR e.Rules=true/\0<=e.Clock/\e.Clock<=200/\e.Fired.length<=40/\e.Log.length<=500/\e.Memory.length<=24:=by
 have h0:=h;unfold HT at h;simp only[Bool.and_eq_true,decide_eq_true_eq,GO] at h;obtain⟨h1,a,b,c,d,_⟩:=h;have hm:=a;unfold C5 AW at hm;simp only[Bool.and_eq_true,decide_eq_true_eq,List.length_map] at hm;refine⟨a,h1,by omega,by omega,by omega,by omega,hm.2.1⟩
theorem A9q{e:Engine}{f:Fact}(h1:HT e=true)(a:BI f=true)(b:K5 e.Memory f=false)(c:e.Memory.length<24)(d:e.Clock<200)(g:e.Log.length<500):A8Z e f=true:=by simp[A8Z,h1,a,b,c,d,g]
theorem A9u{e:Engine}{f:Fact}(h1:HT e=true)(a:BI f=true)(b:¬0<GG e.Memory f)(c:e.Memory.length≠24)(d:e.Clock≠200)(g:e.Log.length≠500):A8Z e f=true:=by
 have hp:=A8H h1;have ht:=cY hp.1 f;refine A9q h1 a ?_ (by omega) (by omega) (by omega);rw[ht.1,decide_eq_false_iff_not];omega
theorem B2F{e:Engine}{f:Fact}(h:A8Z e f=true):HT e=true:=by
 simp only[A8Z,Bool.and_eq_true] at h;exact h.1.1.1.1.1
theorem A9L{e:Engine}{f:Fact}(h:HT e=false):A8Z e f=false:=by simp[A8Z,h]
theorem A9M{e:Engine}{f:Fact}(h:BI f=false):A8Z e f=false:=by simp[A8Z,h]
theorem A9E{e:Engine}{f:Fact}(h:K5 e.Memory f=true):A8Z e f=false:=by simp[A8Z,h]
theorem A8l{e:Engine}{f:Fact}(h1:HT e=true)(h:0<GG e.Memory f):A8Z e f=false:=A9E (by
 rw[(cY (A8H h1).1 f).1,decide_eq_true_eq]
 omega)
theorem A9N{e:Engine}{f:Fact}(h:¬e.Memory.length<24\/¬e.Clock<200\/¬e.Log.length<500):A8Z e f=false:=by
 rcases h with h|h|h<;>simp only[A8Z,decide_eq_false h,Bool.and_false,Bool.false_and]
theorem B0y{e:Engine}{f:Fact}(h1:HT e=true)(a:K5 e.Memory f=true)(b:e.Log.length<500):A8g e f=true:=by simp[A8g,h1,a,b]
theorem B1P{e:Engine}{f:Fact}(h1:HT e=true)(a:GG e.Memory f≠0)(b:e.Log.length≠500):A8g e f=true:=by
 have hp:=A8H h1;exact B0y h1 (by rw[(cY hp.1 f).1,decide_eq_true_eq];exact a) (by omega)
theorem A9v{e:Engine}{f:Fact}(h:HT e=false):A8g e f=false:=by simp[A8g,h]
theorem A9w{e:Engine}{f:Fact}(h:K5 e.Memory f=false):A8g e f=false:=by simp[A8g,h]
theorem A9e{e:Engine}{f:Fact}(h:GG e.Memory f=0):A8g e f=false:=by
 cases h1:HT e with
 |false=>exact A9v h1
 |true=>exact A9w (by rw[(cY (A8H h1).1 f).1,h];simp)
theorem B0K{e:Engine}{f:Fact}(h:¬e.Log.length<500):A8g e f=false:=by simp only[A8g,decide_eq_false h,Bool.and_false]
theorem xU(l:List Firing):AI QH l<=4*DD DG l:=by
 have:=MD (c:=QH) (d:=DG) (m:=1) (λx=>by unfold QH DG;omega) l;unfold DD;omega
theorem xV(l:List Event):AI TA l<=4*DD L9 l:=by
 have:=MD (c:=TA) (d:=L9) (m:=3) (λx=>by unfold TA L9 F9 M9;omega) l;unfold DD;omega
theorem A2H(e:Engine):cEn e<=4*DI e:=by
 have h1:=xD e.Rules;have a:=xT e.Memory;have b:=xU e.Fired;have c:=xV e.Log;unfold cEn DI;omega
theorem B2G{α:Type}(c:α->Nat)(l m:List α):AI c (l++m)=AI c l+AI c m:=by simp[AI]
end Go.Sy
