/-
  Patterns met by facts: bindings, conditions, tokens, matches.
  Conditions: those that each theorem states.
-/
import Derived.Test.YtfmjgnjaoihefaaGreatDoorCho
import Derived.Test.YtfmjgnjaoihefaaGreatDoorChs
namespace Go.Sy
open Go
def GB(b:List Pair)(k:Nat):Bool:=match b[k]? with
 |none=>false
 |some x=>BM x.Var&&(BA x.Value&&(decide (k=0)||(match b[k-1]? with|none=>false|some p=>JE p.Var x.Var)))
def D7(b:List Pair):Bool:=decide (b.length<=6)&&(List.range b.length).all (GB b)
theorem dW{b:List Pair}{k:Nat}{x:Pair}(h:b[k]?=some x)(h1:BM x.Var=true)(c:BA x.Value=true)(hk:k=0):GB b k=true:=by subst hk;simp[GB,h,h1,c]
theorem dX{b:List Pair}{k j:Nat}{x p:Pair}(h:b[k]?=some x)(hp:b[j]?=some p)(c:j=k-1)(h1:BM x.Var=true)(d:BA x.Value=true)(hc:JE p.Var x.Var=true):GB b k=true:=by subst c;simp[GB,h,h1,d,hp,hc]
theorem X2{b:List Pair}{k:Nat}{x:Pair}(h:b[k]?=some x)(h1:BM x.Var=false):GB b k=false:=by simp[GB,h,h1]
theorem X3{b:List Pair}{k:Nat}{x:Pair}(h:b[k]?=some x)(h1:BA x.Value=false):GB b k=false:=by simp[GB,h,h1]
theorem X4{b:List Pair}{k j:Nat}{x p:Pair}(h:b[k]?=some x)(hp:b[j]?=some p)(c:j=k-1/\0<k)(hc:JE p.Var x.Var=false):GB b k=false:=by
 obtain⟨rfl,hk⟩:=c;have:k≠0:=by omega
 simp[GB,h,hp,hc,this]
theorem A2b{b:List Pair}(h:¬b.length<=6):false=D7 b:=by unfold D7;rw[decide_eq_false h];rfl
theorem RU{b:List Pair}{k:Nat}(hk:k<b.length)(h:GB b k=false):false=D7 b:=by
 unfold D7;have:(List.range b.length).all (GB b)=false:=by rw[List.all_eq_false];exact⟨k,by simpa using hk,by rw[h];simp⟩
 rw[this];simp
theorem kQ{b:List Pair}(c:∀i,i<b.length->GB b i=true):decide (b.length<=6)=D7 b:=by
 unfold D7;have:(List.range b.length).all (GB b)=true:=by rw[List.all_eq_true];intro i h;exact c i (by simpa using h)
 rw[this];simp
theorem A5r{b:List Pair}(h:b.length<=6)(c:∀i,i<b.length->GB b i=true):true=D7 b:=by rw[<-kQ c,decide_eq_true h]
theorem A5s{b:List Pair}(c:∀i,i<b.length->GB b i=true):decide ((b.length:Int)<=6)=D7 b:=by rw[<-kQ c,Bool.eq_iff_iff];simp;omega
theorem Z6{b:List Pair}(h:D7 b=true):b.length<=6:=by unfold D7 at h;simp only[Bool.and_eq_true,decide_eq_true_eq] at h;exact h.1
def nF(b:List Pair)(t:ByteArray):Option ByteArray:=if BA t=true then some t else if BM t=true then(b.find? (λx=>decide (x.Var=t))).map (·.Value) else none
def EJ(b:List Pair)(t:ByteArray):ByteArray:=(nF b t).getD ⟨#[]⟩
def HU(b:List Pair)(t:ByteArray):Bool:=(nF b t).isSome
theorem kR{b:List Pair}{t:ByteArray}(h:BA t=true):t=EJ b t/\true=HU b t:=by simp[EJ,HU,nF,h]
theorem yO{α:Type}{p:α->Bool}{l:List α}{k:Nat}{x:α}(b:l[k]?=some x)(hp:p x=true)(c:∀i,i<k->∀y,l[i]?=some y->p y=false):l.find? p=some x:=by
 have hk:=lS b;rw[List.find?_eq_some_iff_getElem];refine⟨hp,k,hk,by rw[List.getElem?_eq_getElem hk] at b;exact Option.some.inj b,λj hj=>?_⟩;rw[c j hj _ (List.getElem?_eq_getElem (by omega))];rfl
theorem yP{α:Type}{p:α->Bool}{l:List α}(b:∀i,i<l.length->∀y,l[i]?=some y->p y=false):l.find? p=none:=by
 rw[List.find?_eq_none];intro x hx;obtain⟨k,hk,rfl⟩:=List.getElem_of_mem hx;rw[b k hk _ (List.getElem?_eq_getElem hk)];simp
theorem A5t{b:List Pair}{t:ByteArray}{k:Nat}{x:Pair}(c:BA t=false)(d:BM t=true)(f:b[k]?=some x)(g:x.Var=t)(j:∀i,i<k->∀y,b[i]?=some y->y.Var≠t):x.Value=EJ b t/\true=HU b t:=by
 have:b.find? (λx=>decide (x.Var=t))=some x:=yO f (by simp[g]) (λi h y hy=>by simp[j i h y hy]);simp[EJ,HU,nF,c,d,this]
theorem A5u{b:List Pair}{t:ByteArray}(c:BA t=false)(d:BM t=false\/∀i,i<b.length->∀y,b[i]?=some y->y.Var≠t):⟨#[]⟩=EJ b t/\false=HU b t:=by
 by_cases hv:BM t=true
 ·have f:=d.resolve_left (by rw[hv];simp);have:b.find? (λx=>decide (x.Var=t))=none:=yP (λi h y hy=>by simp[f i h y hy]);simp[EJ,HU,nF,c,this]
 ·simp[EJ,HU,nF,c,hv]
theorem kS{b:List Pair}{t:ByteArray}{k:Nat}{x:Pair}(d:BA t=false)(c:BM t=true)(f:b[k]?=some x)(g:x.Var=t)(j:∀i,i<k->∀y,b[i]?=some y->¬(y.Var=t/\BM t=true)):x.Value=EJ b t/\true=HU b t:=A5t d c f g (λi h y hy e=>j i h y hy ⟨e,c⟩)
theorem X5{b:List Pair}{t:ByteArray}(c:BA t=false)(d:BM t=false\/∀i,i<b.length->∀y,b[i]?=some y->¬(y.Var=t/\BM t=true)):⟨#[]⟩=EJ b t/\false=HU b t:=A5u c (by
 by_cases hv:BM t=true
 ·exact .inr λi h y hy e=>(d.resolve_left (by rw[hv];simp)) i h y hy ⟨e,hv⟩
 ·exact .inl (by simpa using hv))
def PQ{α:Type}(p:α->Bool)(s:α)(q:List α × Bool)(x:α):List α × Bool:=(if (!q.2&&p x)=true then q.1++ [s]++ [x] else q.1++ [x],q.2||p x)
def DK{α:Type}(p:α->Bool)(s:α)(l:List α)(k:Nat):List α × Bool:=(l.take k).foldl (PQ p s) ([],false)
section
variable {α:Type} {p:α->Bool} {s x:α} {l:List α} {k:Nat}
theorem RX(h:l[k]?=some x):DK p s l (k+1)=PQ p s (DK p s l k) x:=by
 unfold DK;rw[A1 h,List.foldl_append];rfl
theorem tP(p:α->Bool)(s:α)(l:List α):[]=(DK p s l 0).1:=by simp[DK]
theorem dY(h:l[k]?=some x)(hd:(DK p s l k).2=false)(hc:p x=true):(DK p s l k).1++ [s]++ [x]=(DK p s l (k+1)).1:=by rw[RX h];simp[PQ,hd,hc]
theorem kT(h:l[k]?=some x)(hc:p x=false):(DK p s l k).1++ [x]=(DK p s l (k+1)).1:=by rw[RX h];simp[PQ,hc]
theorem kU(h:l[k]?=some x)(hd:(DK p s l k).2=true):(DK p s l k).1++ [x]=(DK p s l (k+1)).1:=by rw[RX h];simp[PQ,hd]
theorem kV(h:l[k]?=some x)(hc:p x=true):true=(DK p s l (k+1)).2:=by rw[RX h];simp[PQ,hc]
theorem dZ{b:Bool}(h:l[k]?=some x)(hd:b=(DK p s l k).2)(hb:b=true):b=(DK p s l (k+1)).2:=by rw[hb,RX h];simp[PQ,hd.symm.trans hb]
theorem eA{b:Bool}(h:l[k]?=some x)(hd:b=(DK p s l k).2)(hb:b=false)(hc:p x=false):b=(DK p s l (k+1)).2:=by rw[hb,RX h];simp[PQ,hd.symm.trans hb,hc]
theorem eC(p:α->Bool)(s:α):∀(l:List α) (q:List α × Bool),(l.foldl (PQ p s) q).1.length<=q.1.length+2*l.length
 | [],q=>by simp
 | x::l,q=>by
  have ih:=eC p s l (PQ p s q x);have h1:(PQ p s q x).1.length<=q.1.length+2:=by
   unfold PQ;simp only
   split<;>simp
  simp only[List.foldl_cons,List.length_cons];omega
theorem U1(p:α->Bool)(s:α)(l:List α)(k:Nat):(DK p s l k).1.length<=2*k:=by
 have:=eC p s (l.take k) ([],false);have b:(l.take k).length<=k:=by rw[List.length_take];omega
 unfold DK;simp only[List.length_nil] at this;omega
def Z7(p:α->Bool)(s:α)(l:List α):List α:=if (DK p s l l.length).2=true then(DK p s l l.length).1 else(DK p s l l.length).1++ [s]
theorem tQ(h1:k<=l.length)(b:l.length<=k)(hd:(DK p s l k).2=true):(DK p s l k).1=Z7 p s l:=by
 have e:k=l.length:=by omega
 subst e;simp[Z7,hd]
theorem tT(h1:k<=l.length)(b:l.length<=k)(hd:(DK p s l k).2=false):(DK p s l k).1++ [s]=Z7 p s l:=by
 have e:k=l.length:=by omega
 subst e;simp[Z7,hd]
theorem eD(p:α->Bool)(s:α)(l:List α):(Z7 p s l).length<=2*l.length+1:=by
 have:=U1 p s l l.length;unfold Z7;split<;>simp<;>omega
end
abbrev NW(v:ByteArray)(y:Pair):Bool:= !(JE y.Var v||decide (y.Var=v))
def Z8(b:List Pair)(v x:ByteArray):List Pair:=Z7 (NW v) ⟨v,x⟩ b
def MW(b:List Pair)(v x:ByteArray):Option (List Pair):=
 if (D7 b&&BM v&&BA x)=true then(if HU b v=true then(if EJ b v=x then some b else none) else if b.length=6 then none else some (Z8 b v x)) else none
def Fq(b:List Pair)(v x:ByteArray):List Pair:=(MW b v x).getD []
def GY(b:List Pair)(v x:ByteArray):Bool:=(MW b v x).isSome
theorem JN{b:List Pair}{v x:ByteArray}(h:D7 b=false\/BM v=false\/BA x=false):[]=Fq b v x/\false=GY b v x:=by
 have:MW b v x=none:=by unfold MW;rcases h with h|h|h<;>simp[h]
 simp[Fq,GY,this]
theorem kW{b:List Pair}{v x:ByteArray}(h1:D7 b=true)(c:BM v=true)(d:BA x=true)(f:HU b v=true)(g:EJ b v=x):b=Fq b v x/\true=GY b v x:=by
 have:MW b v x=some b:=by unfold MW;simp[h1,c,d,f,g]
 simp[Fq,GY,this]
theorem kX{b:List Pair}{v x:ByteArray}(c:HU b v=true)(d:EJ b v≠x):[]=Fq b v x/\false=GY b v x:=by
 have:MW b v x=none:=by unfold MW;simp[c,d]
 simp[Fq,GY,this]
theorem kY{b:List Pair}{v x:ByteArray}(c:HU b v=false)(d:6<=b.length):[]=Fq b v x/\false=GY b v x:=by
 have:MW b v x=none:=by
  unfold MW
  split
  ·rename_i h;simp only[Bool.and_eq_true] at h;have:=Z6 h.1.1;have e:b.length=6:=by omega
   simp[c,e]
  ·rfl
 simp[Fq,GY,this]
theorem X6{b:List Pair}{v x:ByteArray}(h1:D7 b=true)(c:BM v=true)(d:BA x=true)(f:HU b v=false)(g:b.length≠6):Z8 b v x=Fq b v x/\true=GY b v x:=by
 have:MW b v x=some (Z8 b v x):=by unfold MW;simp[h1,c,d,f,g]
 simp[Fq,GY,this]
theorem eE{b:List Pair}{v x:ByteArray}:(Fq b v x).length<=13:=by
 unfold Fq MW
 split
 ·rename_i h;simp only[Bool.and_eq_true] at h;have:=Z6 h.1.1
  split
  ·split<;>simp<;>omega
  ·split
   ·simp
   ·simp only[Option.getD_some];have:=eD (NW v) ⟨v,x⟩ b;unfold Z8;omega
 ·simp
theorem eF{α:Type}{p:α->Bool}{s y:α}:∀(l:List α) (q:List α × Bool),y∈(l.foldl (PQ p s) q).1->y∈q.1\/y=s\/y∈l
 | [],q,h=> .inl h
 | x::l,q,h=>by
  have ih:=eF l (PQ p s q x) h
  rcases ih with h1|h1|h1
  ·unfold PQ at h1;simp only at h1
   split at h1
   ·simp only[List.mem_append,List.mem_singleton] at h1
    rcases h1 with (h1|h1)|h1
    ·exact .inl h1
    ·exact .inr (.inl h1)
    ·exact .inr (.inr (by simp[h1]))
   ·simp only[List.mem_append,List.mem_singleton] at h1
    rcases h1 with h1|h1
    ·exact .inl h1
    ·exact .inr (.inr (by simp[h1]))
  ·exact .inr (.inl h1)
  ·exact .inr (.inr (by simp[h1]))
theorem eG{α:Type}{p:α->Bool}{s y:α}{l:List α}(h:y∈Z7 p s l):y=s\/y∈l:=by
 have key:y∈(DK p s l l.length).1->y=s\/y∈l:=λh=>by
  unfold DK at h
  rcases eF _ _ h with h1|h1|h1
  ·simp at h1
  ·exact .inl h1
  ·exact .inr (List.mem_of_mem_take h1)
 unfold Z7 at h
 split at h
 ·exact key h
 ·simp only[List.mem_append,List.mem_singleton] at h
  rcases h with h|h
  ·exact key h
  ·exact .inl h
theorem yQ{b:List Pair}{v x:ByteArray}(h:LR KF b)(c:VP v)(d:VP x):LR KF (Fq b v x):=λp hp=>by
 unfold Fq MW at hp
 split at hp
 ·split at hp
  ·split at hp
   ·exact h p hp
   ·simp at hp
  ·split at hp
   ·simp at hp
   ·simp only[Option.getD_some] at hp
    rcases eG hp with h1|h1
    ·subst h1;exact⟨c,d⟩
    ·exact h p h1
 ·simp at hp
def WI(o:Option (List Pair))(q:ByteArray × ByteArray):Option (List Pair):=o.bind λb=>if BA q.1=true then(if q.1=q.2 then some b else none) else MW b q.1 q.2
def LX(p:Pattern)(f:Fact)(b:List Pair)(k:Nat):Option (List Pair):=((p.Args.zip f.Args).take k).foldl WI (some b)
def U2(p:Pattern)(f:Fact)(b:List Pair):Bool:=CK p&&BI f&&D7 b&&decide (p.Rel=f.Rel)&&decide (p.Args.length=f.Args.length)
def U3(p:Pattern)(f:Fact)(b:List Pair):Option (List Pair):=if U2 p f b=true then LX p f b p.Args.length else none
def GH(p:Pattern)(f:Fact)(b:List Pair):List Pair:=(U3 p f b).getD []
def DC(p:Pattern)(f:Fact)(b:List Pair):Bool:=(U3 p f b).isSome
theorem A2c{α β:Type}{l:List α}{m:List β}{k:Nat}{x:α}{y:β}(b:l[k]?=some x)(c:m[k]?=some y):(l.zip m)[k]?=some (x,y):=by
 rw[List.getElem?_zip_eq_some];exact⟨b,c⟩
theorem Z9{p:Pattern}{f:Fact}{b:List Pair}{k:Nat}{x y:ByteArray}(c:p.Args[k]?=some x)(d:f.Args[k]?=some y):LX p f b (k+1)=WI (LX p f b k) (x,y):=by
 unfold LX;rw[A1 (A2c c d),List.foldl_append];rfl
theorem X7:∀(l:List (ByteArray × ByteArray)),l.foldl WI none=none
 | []=>rfl
 |_::l=>X7 l
theorem nG{p:Pattern}{f:Fact}{b:List Pair}{k n:Nat}(h:LX p f b k=none)(hk:k<=n):LX p f b n=none:=by
 unfold LX at*;have:(p.Args.zip f.Args).take n=(p.Args.zip f.Args).take k++((p.Args.zip f.Args).take n).drop k:=by
  have h1:=List.take_append_drop k ((p.Args.zip f.Args).take n);rw[List.take_take,Nat.min_eq_left hk] at h1;exact h1.symm
 rw[this,List.foldl_append,h,X7]
theorem HW{p:Pattern}{f:Fact}{b:List Pair}(h:U2 p f b=false):[]=GH p f b/\false=DC p f b:=by simp[GH,DC,U3,h]
theorem FT{p:Pattern}{f:Fact}{b:List Pair}(h:CK p=false\/BI f=false\/D7 b=false\/p.Rel≠f.Rel\/p.Args.length≠f.Args.length):U2 p f b=false:=by
 unfold U2;rcases h with h|h|h|h|h<;>simp[h]
theorem tV{p:Pattern}{f:Fact}{b:List Pair}(h1:CK p=true)(c:BI f=true)(d:D7 b=true)(g:p.Rel=f.Rel)(h:p.Args.length=f.Args.length):U2 p f b=true:=by simp[U2,h1,c,d,g,h]
theorem eH{p:Pattern}{f:Fact}{b:List Pair}(h:U2 p f b=true):p.Args.length=f.Args.length:=by
 unfold U2 at h;simp only[Bool.and_eq_true,decide_eq_true_eq] at h;exact h.2
theorem SN{p:Pattern}{f:Fact}{b:List Pair}{k:Nat}(hk:k<p.Args.length)(h:LX p f b (k+1)=none):[]=GH p f b/\false=DC p f b:=by
 have c:=nG h (n:=p.Args.length) (by omega);have:U3 p f b=none:=by unfold U3;split<;>simp[c]
 simp[GH,DC,this]
theorem kZ{p:Pattern}{f:Fact}{b c:List Pair}{k:Nat}(d:U2 p f b=true)(hk:k<=p.Args.length/\p.Args.length<=k)(h:LX p f b k=some c):c=GH p f b/\true=DC p f b:=by
 have e:k=p.Args.length:=by omega
 subst e;have:U3 p f b=some c:=by unfold U3;simp[d,h]
 simp[GH,DC,this]
theorem tX{p:Pattern}{f:Fact}{b c:List Pair}{k:Nat}{x y:ByteArray}(h:LX p f b k=some c)(g:p.Args[k]?=some x)(j:f.Args[k]?=some y)(o:BA x=true)(d:x=y):LX p f b (k+1)=some c:=by
 rw[Z9 g j,h];simp[WI,d,d▸o]
theorem TC{p:Pattern}{f:Fact}{b c:List Pair}{k:Nat}{x y:ByteArray}(h:LX p f b k=some c)(d:p.Args[k]?=some x)(g:f.Args[k]?=some y)(j:BA x=true)(o:x≠y):LX p f b (k+1)=none:=by
 rw[Z9 d g,h];simp[WI,j,o]
theorem tY{p:Pattern}{f:Fact}{b c:List Pair}{k:Nat}{x y:ByteArray}(h:LX p f b k=some c)(j:p.Args[k]?=some x)(o:f.Args[k]?=some y)(r:BA x=false)(g:GY c x y=true):LX p f b (k+1)=some (Fq c x y):=by
 rw[Z9 j o,h];unfold GY at g;obtain⟨d,hd⟩:=Option.isSome_iff_exists.1 g;simp[WI,r,Fq,hd]
theorem TD{p:Pattern}{f:Fact}{b c:List Pair}{k:Nat}{x y:ByteArray}(h:LX p f b k=some c)(g:p.Args[k]?=some x)(j:f.Args[k]?=some y)(o:BA x=false)(d:GY c x y=false):LX p f b (k+1)=none:=by
 rw[Z9 g j,h];unfold GY at d;have:MW c x y=none:=by simpa using d
 simp[WI,o,this]
def E3(x:Cond)(b:List Pair):Bool:=IA x&&D7 b&&(HU b x.Left&&HU b x.Right)&&
 (if x.Kind=3 then decide (EJ b x.Left=EJ b x.Right) else if x.Kind=4 then decide (EJ b x.Left≠EJ b x.Right) else pO (EJ b x.Left)&&pO (EJ b x.Right)&&decide (pI (EJ b x.Left)<pI (EJ b x.Right)))
def nT(p:Pattern)(b:List Pair)(facts:List Fact):List Fact:=facts.filter (λf=>DC p f b)
def holdB(x:Cond)(b:List Pair)(facts:List Fact):Bool:=BD x&&D7 b&&(if x.Kind=1 then decide (0<(nT x.Pattern b facts).length) else if x.Kind=2 then decide ((nT x.Pattern b facts).length=0) else E3 x b)
def HV(x:Cond)(t:Token)(f:Fact):Option Token:=(U3 x.Pattern f t.Binding).map λb=>⟨t.Facts++ [f],b⟩
def EC(x:Cond)(facts:List Fact)(t:Token):List Token:=if x.Kind≠1 then(if holdB x t.Binding facts=true then [t] else []) else facts.filterMap (HV x t)
def LY(x:Cond)(facts:List Fact)(l:List Token):List Token:=l.flatMap (EC x facts)
def JO(conds:List Cond)(facts:List Fact):List Token:=conds.foldl (λl x=>LY x facts l) [⟨[],[]⟩]
def KL(facts:List Fact)(r:Rule):List Match:=(JO r.If facts).map λt=>⟨r.Name,t.Facts,t.Binding⟩
def GE(rules:List Rule)(facts:List Fact):List Match:=rules.flatMap (KL facts)
def FH(rules:List Rule)(l:List Stamp)(fired:List Firing)(m:Match):Option Choice:=if MG fired m.Rule (BJ l m.Facts)=true then none else some (NP rules l m)
def EK(rules:List Rule)(l:List Stamp)(fired:List Firing):List Choice:=if (AR rules&&C5 l)=true then BY ((GE rules (l.map Stamp.Fact)).filterMap (FH rules l fired)) else []
end Go.Sy
namespace Go.Sy
open Go
section
variable {α β:Type}
theorem LZ{g:α->List β}{l:List α}{k:Nat}{x:α}(h:l[k]?=some x):(l.take k).flatMap g++g x=(l.take (k+1)).flatMap g:=by
 rw[A1 h,List.flatMap_append];simp
theorem OF(g:α->List β)(l:List α):[]=(l.take 0).flatMap g:=by simp
theorem NX{g:α->List β}{l:List α}{k:Nat}(h:l.length<=k):(l.take k).flatMap g=l.flatMap g:=by rw[List.take_of_length_le h]
theorem gV{g:α->Option β}{l:List α}{k:Nat}{x:α}{y:β}(h:l[k]?=some x)(b:g x=some y):(l.take k).filterMap g++ [y]=(l.take (k+1)).filterMap g:=by
 rw[A1 h,List.filterMap_append];simp[b]
theorem aA{g:α->Option β}{l:List α}{k:Nat}{x:α}(h:l[k]?=some x)(b:g x=none):(l.take k).filterMap g=(l.take (k+1)).filterMap g:=by
 rw[A1 h,List.filterMap_append];simp[b]
theorem uA(g:α->Option β)(l:List α):[]=(l.take 0).filterMap g:=by simp
theorem U4(g:α->Option β)(l:List α)(k:Nat):((l.take k).filterMap g).length<=k:=by
 have:=List.length_filterMap_le g (l.take k);rw[List.length_take] at this;omega
theorem uB{p:α->Bool}{l:List α}{k:Nat}{x:α}(h:l[k]?=some x)(hp:p x=true):(l.take k).filter p++ [x]=(l.take (k+1)).filter p:=by
 rw[A1 h,List.filter_append];simp[hp]
theorem uC{p:α->Bool}{l:List α}{k:Nat}{x:α}(h:l[k]?=some x)(hp:p x=false):(l.take k).filter p=(l.take (k+1)).filter p:=by
 rw[A1 h,List.filter_append];simp[hp]
theorem eI(p:α->Bool)(l:List α)(k:Nat):((l.take k).filter p).length<=k:=by
 have:=List.length_filter_le p (l.take k);rw[List.length_take] at this;omega
theorem MI{g:α->List β}{n:Nat}(h:∀x,(g x).length<=n):∀l:List α,(l.flatMap g).length<=n*l.length
 | []=>by simp
 | x::l=>by
  have h1:=h x;have b:=MI h l;rw[List.flatMap_cons,List.length_append,List.length_cons,Nat.mul_add];omega
end
theorem HX{l:List Fact}(h:AW l=true){f:Fact}(b:f∈l):BI f=true:=by
 obtain⟨k,hk,rfl⟩:=List.getElem_of_mem b;unfold AW at h;simp only[Bool.and_eq_true,List.all_eq_true,List.mem_range] at h;have:=h.2 k hk;unfold GA at this;rw[List.getElem?_eq_getElem hk] at this;simp only[Bool.and_eq_true] at this;exact this.1
theorem OG{l:List Fact}(h:AW l=true):l.length<=24:=by
 unfold AW at h;simp only[Bool.and_eq_true,decide_eq_true_eq] at h;exact h.1
theorem aB{f:Fact}(h:BI f=true):F9 f<=35:=by
 unfold BI at h;simp only[Bool.and_eq_true,decide_eq_true_eq,List.all_eq_true] at h;have h1:f.Rel.size<=8:=by
  have:=h.1.1;unfold FK at this;simp only[Bool.and_eq_true] at this;exact(IV this.1).2
 have c:∀(l:List ByteArray),(∀x∈l,BA x=true)->(l.map (·.size)).sum<=8*l.length:=λl=>by
  induction l with
  |nil=>simp
  | cons x l ih=>
   intro hx;have a:=(IV (hx x (by simp))).2;have b:=ih (λy hy=>hx y (by simp[hy]));simp only[List.map_cons,List.sum_cons,List.length_cons];omega
 have d:=c f.Args h.2;have g:=h.1.2;unfold F9 M9;omega
theorem lA{f:Fact}(h:BI f=true):P9 f:=by
 unfold BI at h;simp only[Bool.and_eq_true,decide_eq_true_eq,List.all_eq_true] at h;refine⟨?_,λx hx=>?_⟩
 ·have:=h.1.1;unfold FK at this;simp only[Bool.and_eq_true] at this;have:=IV this.1;unfold VP;omega
 ·have:=IV (h.2 x hx);unfold VP;omega
theorem RY{l:List Fact}(h:∀f∈l,BI f=true):DD F9 l<=36*l.length:=by
 have:AI F9 l<=35*l.length:=by
  induction l with
  |nil=>simp[AI]
  | cons x l ih=>
   have a:=aB (h x (by simp));have b:=ih (λy hy=>h y (by simp[hy]));simp only[AI,List.map_cons,List.sum_cons,List.length_cons] at*;omega
 unfold DD;omega
theorem NY{l:List Fact}(h:AW l=true):DD F9 l<=1048576/\LR P9 l/\l.length<=24:=by
 have h1:=RY (l:=l) (λf hf=>HX h hf);have b:=OG h;exact⟨by omega,λf hf=>lA (HX h hf),b⟩
def uD(b:List Pair):Prop:=b.length<=13/\∀p∈b,p.Var.size<=9/\p.Value.size<=8
theorem A2d{b:List Pair}(h:uD b):LR KF b:=λp hp=>by
 have:=h.2 p hp;exact⟨by unfold VP;omega,by unfold VP;omega⟩
theorem uF{b:List Pair}(h:uD b):DD KE b<=234:=by
 have:AI KE b<=17*b.length:=by
  have f:=h.2;clear h
  induction b with
  |nil=>simp[AI]
  | cons x l ih=>
   have a:=f x (by simp);have c:=ih (λy hy=>f y (by simp[hy]));have d:KE x=x.Var.size+x.Value.size:=rfl;simp only[AI,List.map_cons,List.sum_cons,List.length_cons] at*;omega
 have:=h.1;unfold DD;omega
theorem yR:uD []:=⟨by simp,by simp⟩
theorem A2e{s:ByteArray}(h:BM s=true):s.size<=9:=by
 unfold BM at h;simp only[Bool.and_eq_true,decide_eq_true_eq] at h;have:=(IV h.2.2).2;rw[ByteArray.size_extract] at this;omega
theorem yS{b c:List Pair}{v x:ByteArray}(h:uD b)(d:MW b v x=some c):uD c:=by
 unfold MW at d
 split at d
 ·rename_i hc;simp only[Bool.and_eq_true] at hc
  split at d
  ·split at d
   ·simp only[Option.some.injEq] at d;rw[<-d];exact h
   ·cases d
  ·split at d
   ·cases d
   ·simp only[Option.some.injEq] at d;subst d;refine⟨?_,λp hp=>?_⟩
    ·have h1:=eD (NW v) ⟨v,x⟩ b;have f:=Z6 hc.1.1;unfold Z8;omega
    ·rcases eG hp with h1|h1
     ·subst h1;exact⟨A2e hc.1.2,(IV hc.2).2⟩
     ·exact h.2 p h1
 ·cases d
theorem lB:∀(l:List (ByteArray × ByteArray)) {o:Option (List Pair)},(∀b,o=some b->uD b)->∀c,l.foldl WI o=some c->uD c
 | [],_,h,c,hc=>h c hc
 | q::l,o,h,c,hc=>by
  refine lB l (o:=WI o q) (λb hb=>?_) c hc;unfold WI at hb;rw[Option.bind_eq_some_iff] at hb;obtain⟨a,ha,hb⟩:=hb
  split at hb
  ·split at hb
   ·simp only[Option.some.injEq] at hb;rw[<-hb];exact h a ha
   ·cases hb
  ·exact yS (h a ha) hb
theorem yT{p:Pattern}{f:Fact}{b c:List Pair}(h:uD b)(d:U3 p f b=some c):uD c:=by
 unfold U3 at d
 split at d
 ·unfold LX at d;exact lB _ (λa ha=>by simp only[Option.some.injEq] at ha;rw[<-ha];exact h) c d
 ·cases d
theorem A2f{x:Cond}{t:Token}{f:Fact}(h:DC x.Pattern f t.Binding=true):HV x t f=some ⟨t.Facts++ [f],GH x.Pattern f t.Binding⟩:=by
 unfold DC at h;obtain⟨b,hb⟩:=Option.isSome_iff_exists.1 h;simp[HV,GH,hb]
theorem A2g{x:Cond}{t:Token}{f:Fact}(h:DC x.Pattern f t.Binding=false):HV x t f=none:=by
 unfold DC at h;have:U3 x.Pattern f t.Binding=none:=by simpa using h
 simp[HV,this]
theorem uG{A:List Token}{x:Cond}{t:Token}{facts:List Fact}{q:Nat}{f:Fact}(h:facts[q]?=some f)(b:DC x.Pattern f t.Binding=true):(A++(facts.take q).filterMap (HV x t))++ [⟨t.Facts++ [f],GH x.Pattern f t.Binding⟩]=A++(facts.take (q+1)).filterMap (HV x t):=by
 rw[<-gV h (A2f b),List.append_assoc]
theorem uH{A:List Token}{x:Cond}{t:Token}{facts:List Fact}{q:Nat}{f:Fact}(h:facts[q]?=some f)(b:DC x.Pattern f t.Binding=false):A++(facts.take q).filterMap (HV x t)=A++(facts.take (q+1)).filterMap (HV x t):=by
 rw[<-aA h (A2g b)]
theorem uI(A:List Token)(x:Cond)(t:Token)(facts:List Fact):A=A++(facts.take 0).filterMap (HV x t):=by simp
theorem uJ{x:Cond}{facts:List Fact}{l:List Token}{i:Nat}{t:Token}(h:l[i]?=some t)(hk:x.Kind≠1)(b:holdB x t.Binding facts=true):(l.take i).flatMap (EC x facts)++ [t]=(l.take (i+1)).flatMap (EC x facts):=by
 rw[<-LZ h];simp[EC,hk,b]
theorem uK{x:Cond}{facts:List Fact}{l:List Token}{i:Nat}{t:Token}(h:l[i]?=some t)(hk:x.Kind≠1)(b:holdB x t.Binding facts=false):(l.take i).flatMap (EC x facts)=(l.take (i+1)).flatMap (EC x facts):=by
 rw[<-LZ h];simp[EC,hk,b]
theorem uL{x:Cond}{facts:List Fact}{l:List Token}{i q:Nat}{t:Token}(h:l[i]?=some t)(hk:x.Kind=1)(b:facts.length<=q):(l.take i).flatMap (EC x facts)++(facts.take q).filterMap (HV x t)=(l.take (i+1)).flatMap (EC x facts):=by
 rw[<-LZ h,List.take_of_length_le b];simp[EC,hk]
theorem eJ{x:Cond}{facts:List Fact}(b:facts.length<=24)(t:Token):(EC x facts t).length<=24:=by
 unfold EC
 split
 ·split<;>simp
 ·have:=List.length_filterMap_le (HV x t) facts;omega
theorem U5{x:Cond}{facts:List Fact}(b:facts.length<=24)(l:List Token)(i:Nat):((l.take i).flatMap (EC x facts)).length<=24*i:=by
 have h1:=MI (eJ (x:=x) b) (l.take i);have c:(l.take i).length<=i:=by rw[List.length_take];omega
 have d:24*(l.take i).length<=24*i:=Nat.mul_le_mul_left _ c;omega
theorem eK{x:Cond}{facts:List Fact}(b:facts.length<=24)(l:List Token)(i q:Nat)(t:Token):((l.take i).flatMap (EC x facts)++(facts.take q).filterMap (HV x t)).length<=24*i+q:=by
 have h1:=U5 (x:=x) b l i;have c:=U4 (HV x t) facts q;rw[List.length_append];omega
def EN(conds:List Cond)(facts:List Fact)(k:Nat):List Token:=(conds.take k).foldl (λl x=>LY x facts l) [⟨[],[]⟩]
theorem uM(conds:List Cond)(facts:List Fact):[⟨[],[]⟩]=EN conds facts 0:=rfl
theorem uN{conds:List Cond}{facts:List Fact}{k:Nat}{x:Cond}(h:conds[k]?=some x):LY x facts (EN conds facts k)=EN conds facts (k+1):=by
 unfold EN;rw[A1 h,List.foldl_append];rfl
theorem A2h{conds:List Cond}{facts:List Fact}{k i:Nat}{x:Cond}(h:conds[k]?=some x)(b:(EN conds facts k).length<=i):((EN conds facts k).take i).flatMap (EC x facts)=EN conds facts (k+1):=by
 rw[<-uN h,NX b];rfl
theorem NZ{conds:List Cond}{facts:List Fact}{k:Nat}(h:conds.length<=k):EN conds facts k=JO conds facts:=by unfold EN JO;rw[List.take_of_length_le h]
theorem nH{x:Cond}{facts:List Fact}(b:facts.length<=24)(l:List Token):(LY x facts l).length<=24*l.length:=MI (eJ (x:=x) b) l
theorem X8{facts:List Fact}(b:facts.length<=24):∀(cs:List Cond) (l:List Token),(cs.foldl (λl x=>LY x facts l) l).length<=24^cs.length*l.length
 | [],l=>by simp
 | x::cs,l=>by
  have h1:=X8 b cs (LY x facts l);have c:=nH (x:=x) b l;simp only[List.foldl_cons,List.length_cons];refine Nat.le_trans h1 ?_;rw[Nat.pow_succ,Nat.mul_assoc];exact Nat.mul_le_mul_left _ c
theorem QU{conds:List Cond}{facts:List Fact}(b:facts.length<=24)(hc:conds.length<=4)(k:Nat):(EN conds facts k).length<=331776:=by
 have h:=X8 b (conds.take k) [⟨[],[]⟩];have c:(conds.take k).length<=4:=by rw[List.length_take];omega
 have d:24^(conds.take k).length<=24^4:=Nat.pow_le_pow_right (by omega) c;simp only[List.length_singleton,Nat.mul_one] at h;have f:(24:Nat)^4=331776:=rfl;unfold EN;omega
def yU(facts:List Fact)(n:Nat)(t:Token):Prop:=(∀f∈t.Facts,f∈facts)/\t.Facts.length<=n/\uD t.Binding
theorem gW{facts:List Fact}{n m:Nat}{t:Token}(h:yU facts n t)(b:n<=m):yU facts m t:=⟨h.1,Nat.le_trans h.2.1 b,h.2.2⟩
theorem yV{x:Cond}{facts:List Fact}{n:Nat}{t u:Token}(c:yU facts n t)(h:u∈EC x facts t):yU facts (n+1) u:=by
 unfold EC at h
 split at h
 ·split at h
  ·simp only[List.mem_singleton] at h;subst h;exact gW c (by omega)
  ·cases h
 ·rw[List.mem_filterMap] at h;obtain⟨g,hg,he⟩:=h;unfold HV at he;rw[Option.map_eq_some_iff] at he;obtain⟨b,hb,rfl⟩:=he;refine⟨λf hf=>?_,by have:=c.2.1;simp;omega,yT c.2.2 hb⟩
  rcases List.mem_append.1 hf with hf|hf
  ·exact c.1 f hf
  ·simp only[List.mem_singleton] at hf;subst hf;exact hg
theorem eL{facts:List Fact}:∀(cs:List Cond) (n:Nat) (l:List Token),(∀t∈l,yU facts n t)->∀u∈cs.foldl (λl x=>LY x facts l) l,yU facts (n+cs.length) u
 | [],_,_,h,u,hu=>h u hu
 | x::cs,n,l,h,u,hu=>by
  have:=eL cs (n+1) (LY x facts l) (λt ht=>by
   unfold LY at ht;rw[List.mem_flatMap] at ht;obtain⟨v,hv,ht⟩:=ht;exact yV (h v hv) ht) u hu
  rw[List.length_cons];exact gW this (by omega)
theorem TE{conds:List Cond}{facts:List Fact}(hc:conds.length<=4){k:Nat}{t:Token}(b:t∈EN conds facts k):yU facts 4 t:=by
 have h:=eL (conds.take k) 0 [⟨[],[]⟩] (λt b=>by
  simp only[List.mem_singleton] at b;subst b;exact⟨by simp,by simp,yR⟩) t b
 have c:(conds.take k).length<=4:=by rw[List.length_take];omega
 exact gW h (by omega)
theorem gX{facts:List Fact}{t:Token}(b:AW facts=true)(h:yU facts 4 t):DD F9 t.Facts<=144/\t.Binding.length<=13/\LR KF t.Binding/\DD KE t.Binding<=234:=by
 have h1:=RY (l:=t.Facts) (λf hm=>HX b (h.1 f hm));have c:=h.2.1;exact⟨by omega,h.2.2.1,A2d h.2.2,uF h.2.2⟩
theorem uO{r:Rule}{l:List Token}{k:Nat}{t:Token}(h:l[k]?=some t):(l.take k).map (λt=>(⟨r.Name,t.Facts,t.Binding⟩:Match))++ [⟨r.Name,t.Facts,t.Binding⟩]=(l.take (k+1)).map (λt=>(⟨r.Name,t.Facts,t.Binding⟩:Match)):=by
 rw[A1 h,List.map_append];rfl
def G6(r:Rule)(n:Int)(facts:List Fact):List Token:=if (CR r&&AW facts&&GO n 0 (r.If.length:Int))=true then JO (r.If.take n.toNat) facts else []
def JD(facts:List Fact)(r:Rule):List Match:=if (CR r&&AW facts)=true then KL facts r else []
def DX(rules:List Rule)(facts:List Fact):List Match:=if (AR rules&&AW facts)=true then GE rules facts else []
theorem OH{r:Rule}(h:CR r=true):r.If.length<=4/\r.Then.length<=2/\r.Name.size<=8:=by
 unfold CR GO at h;simp only[Bool.and_eq_true,decide_eq_true_eq] at h;have h0:=h.1;unfold FK at h0;simp only[Bool.and_eq_true] at h0;have:=IV h0.1;exact⟨by omega,by omega,by omega⟩
theorem X9{l:List Rule}(h:AR l=true){k:Nat}{r:Rule}(b:l[k]?=some r):CR r=true/\BN l r.Name=(k:Int):=by
 unfold AR at h;simp only[Bool.and_eq_true,List.all_eq_true,List.mem_range] at h;have:=h.2 k (lS b);unfold JR at this;rw[b] at this;simp only[Bool.and_eq_true,decide_eq_true_eq] at this;exact this
theorem YA{l:List Rule}(h:AR l=true):l.length<=6:=by
 unfold AR at h;simp only[Bool.and_eq_true,decide_eq_true_eq] at h;exact h.1
theorem DY{a b:ByteArray}(h1:pO a=true)(c:pO b=true):GX a b<0↔pI a<pI b:=by
 unfold GX DN;rw[if_pos ⟨h1,c⟩]
 split
 ·simp_all
 ·split<;>simp_all
theorem A2i{n m:Int}(h:GO n 0 m=true):0<=n/\n<=m:=by
 unfold GO at h;simp only[Bool.and_eq_true,decide_eq_true_eq] at h;exact h
theorem A2j{r:Rule}{n:Int}{facts:List Fact}(h1:CR r=true)(b:AW facts=true)(c:GO n 0 (r.If.length:Int)=true):JO (r.If.take n.toNat) facts=G6 r n facts:=by simp[G6,h1,b,c]
theorem yW{r:Rule}{n:Int}{facts:List Fact}(h:CR r=false):[]=G6 r n facts:=by simp[G6,h]
theorem yX{r:Rule}{n:Int}{facts:List Fact}(h:AW facts=false):[]=G6 r n facts:=by simp[G6,h]
theorem yY{r:Rule}{n:Int}{facts:List Fact}(h:GO n 0 (r.If.length:Int)=false):[]=G6 r n facts:=by simp[G6,h]
theorem eM{r:Rule}{facts:List Fact}:G6 r (r.If.length:Int) facts=if (CR r&&AW facts)=true then JO r.If facts else []:=by
 have:GO (r.If.length:Int) 0 (r.If.length:Int)=true:=by unfold GO;simp
 unfold G6;rw[this,Bool.and_true,show((r.If.length:Int)).toNat=r.If.length from rfl,List.take_length]
theorem uQ(r:Rule)(facts:List Fact):(G6 r (r.If.length:Int) facts).length<=331776:=by
 rw[eM]
 split
 ·rename_i h;simp only[Bool.and_eq_true] at h;have:=QU (conds:=r.If) (OG h.2) (OH h.1).1 r.If.length;rw[NZ (Nat.le_refl _)] at this;exact this
 ·simp
theorem nI{r:Rule}{facts:List Fact}{k:Nat}(h:(G6 r (r.If.length:Int) facts).length<=k):((G6 r (r.If.length:Int) facts).take k).map (λt=>(⟨r.Name,t.Facts,t.Binding⟩:Match))=JD facts r:=by
 rw[List.take_of_length_le h,eM];unfold JD KL
 split<;>rfl
end Go.Sy
namespace Go.Sy
open Go
def A8q(p:Pattern)(b:List Pair):Bool:=CK p&&(D7 b&&p.Args.all (HU b))
def A8L(p:Pattern)(b:List Pair):Fact:=if A8q p b=true then⟨p.Rel,p.Args.map (EJ b)⟩ else⟨⟨#[]⟩,[]⟩
theorem A7z{p:Pattern}{b:List Pair}(h:A8q p b=false):(⟨⟨#[]⟩,[]⟩:Fact)=A8L p b/\false=A8q p b:=by simp[A8L,h]
theorem A8P{p:Pattern}{b:List Pair}(h:CK p=false):A8q p b=false:=by simp[A8q,h]
theorem A8Q{p:Pattern}{b:List Pair}(h:D7 b=false):A8q p b=false:=by simp[A8q,h]
theorem A8R{p:Pattern}{b:List Pair}{k:Nat}{x:ByteArray}(c:p.Args[k]?=some x)(h:HU b x=false):A8q p b=false:=by
 have:p.Args.all (HU b)=false:=by rw[List.all_eq_false];exact⟨x,List.mem_of_getElem? c,by rw[h];simp⟩
 simp[A8q,this]
theorem A8W{p:Pattern}{b:List Pair}{k:Nat}(h1:CK p=true)(c:D7 b=true)(hk:p.Args.length<=k)(d:∀i,i<k->∀y,p.Args[i]?=some y->HU b y=true):(⟨p.Rel,(p.Args.take k).map (EJ b)⟩:Fact)=A8L p b/\true=A8q p b:=by
 have f:p.Args.all (HU b)=true:=IN (λi h x hx=>d i (by omega) x hx);have g:A8q p b=true:=by simp[A8q,h1,c,f]
 simp only[A8L,g,if_true,List.take_of_length_le hk,and_true]
theorem B2q{α β:Type}{f:α->β}{l:List α}{k:Nat}{x:α}(h:l[k]?=some x):(l.take k).map f++ [f x]=(l.take (k+1)).map f:=by
 rw[A1 h,List.map_append];rfl
theorem uU{α β:Type}(f:α->β)(l:List α)(k:Nat):((l.take k).map f).length<=k:=by rw[List.length_map,List.length_take];omega
theorem U6{r:Rule}{facts:List Fact}(b:CR r=true)(c:AW facts=true):(KL facts r).length<=331776:=by
 unfold KL;rw[List.length_map];have:=QU (conds:=r.If) (OG c) (OH b).1 r.If.length;rw[NZ (Nat.le_refl _)] at this;exact this
theorem uV{r:Rule}{facts:List Fact}(b:CR r=true)(c:AW facts=true):(JO r.If facts).length<=331776:=by
 have:=U6 b c;unfold KL at this
 rwa [List.length_map] at this
theorem eN(facts:List Fact)(r:Rule):(JD facts r).length<=331776:=by
 unfold JD
 split
 ·rename_i h;simp only[Bool.and_eq_true] at h;exact U6 h.1 h.2
 ·simp
theorem YB(facts:List Fact)(rules:List Rule)(k:Nat):((rules.take k).flatMap (JD facts)).length<=331776*k:=by
 have h1:=MI (eN facts) (rules.take k);have b:(rules.take k).length<=k:=by rw[List.length_take];omega
 have c:331776*(rules.take k).length<=331776*k:=Nat.mul_le_mul_left _ b;omega
theorem A2k{facts:List Fact}{r:Rule}(h1:CR r=true)(b:AW facts=true):JD facts r=KL facts r:=by simp[JD,h1,b]
theorem YC{rules:List Rule}(h:AR rules=true){r:Rule}(b:r∈rules):CR r=true:=by
 obtain⟨k,hk⟩:=List.getElem?_of_mem b;exact(X9 h hk).1
theorem U7{α β:Type}{g b:α->List β}:∀{l:List α},(∀x∈l,g x=b x)->l.flatMap g=l.flatMap b
 | [],_=>rfl
 |x::l,h=>by rw[List.flatMap_cons,List.flatMap_cons,h x (by simp),U7 (l:=l) (λy hy=>h y (by simp[hy]))]
theorem uW{rules:List Rule}{facts:List Fact}(h:AR rules=true)(b:AW facts=true)(k:Nat):(rules.take k).flatMap (KL facts)=(rules.take k).flatMap (JD facts):=
 U7 (λ_ hx=>(A2k (YC h (List.mem_of_mem_take hx)) b).symm)
theorem YD{rules:List Rule}{facts:List Fact}(h:AR rules=true)(b:AW facts=true)(k:Nat):((rules.take k).flatMap (KL facts)).length<=331776*k:=by
 rw[uW h b];exact YB facts rules k
theorem U8{rules:List Rule}{facts:List Fact}(h:AR rules=true)(b:AW facts=true):(GE rules facts).length<=1990656:=by
 have h1:=YD h b rules.length;rw[List.take_length] at h1;have c:=YA h;have d:331776*rules.length<=331776*6:=Nat.mul_le_mul_left _ c;unfold GE;omega
theorem nJ(rules:List Rule)(facts:List Fact):(DX rules facts).length<=1990656:=by
 unfold DX
 split
 ·rename_i h;simp only[Bool.and_eq_true] at h;exact U8 h.1 h.2
 ·simp
theorem A5v{rules:List Rule}{facts:List Fact}{k:Nat}(h:AR rules=true)(hk:rules.length<=k):(rules.take k).flatMap (JD facts)=DX rules facts:=by
 rw[List.take_of_length_le hk]
 cases hf:AW facts with
 | true=>
  have:=uW h hf rules.length;rw[List.take_length] at this;simp[DX,h,hf,GE,this]
 | false=>
  have:∀l:List Rule,l.flatMap (JD facts)=[]:=λl=>by
   induction l with
   |nil=>rfl
   |cons r l ih=>rw[List.flatMap_cons,ih];simp[JD,hf]
  rw[this];simp[DX,hf]
theorem A5w{rules:List Rule}{facts:List Fact}{k:Nat}(h:AR rules=false)(hk:k=0):(rules.take k).flatMap (JD facts)=DX rules facts:=by subst hk;simp[DX,h]
theorem A5x{rules:List Rule}{facts:List Fact}{k:Nat}(h:k=0\/AR rules=true)(hk:rules.length<=k):(rules.take k).flatMap (JD facts)=DX rules facts:=by
 rcases h with h|h
 ·have:rules=[]:=List.eq_nil_of_length_eq_zero (by omega);subst this;simp[DX,GE]
 ·exact A5v h hk
theorem L0{l:List Stamp}(h:C5 l=true):AW (l.map Stamp.Fact)=true:=by
 unfold C5 at h;simp only[Bool.and_eq_true] at h;exact h.2
def smM(facts:List Fact)(m:Match):Prop:=(∀f∈m.Facts,f∈facts)/\m.Facts.length<=4/\uD m.Binding/\m.Rule.size<=8
theorem yZ{facts:List Fact}{r:Rule}(b:CR r=true){m:Match}(h:m∈KL facts r):smM facts m/\m.Rule=r.Name:=by
 unfold KL at h;rw[List.mem_map] at h;obtain⟨t,ht,rfl⟩:=h;rw[<-NZ (k:=r.If.length) (Nat.le_refl _)] at ht;have h1:=TE (OH b).1 ht;exact⟨⟨h1.1,h1.2.1,h1.2.2,(OH b).2.2⟩,rfl⟩
theorem aC{rules:List Rule}{facts:List Fact}(h:AR rules=true){m:Match}(b:m∈GE rules facts):smM facts m/\∃r∈rules,m.Rule=r.Name:=by
 unfold GE at b;rw[List.mem_flatMap] at b;obtain⟨r,hr,b⟩:=b;have:=yZ (YC h hr) b;exact⟨this.1,r,hr,this.2⟩
theorem uX{facts:List Fact}{m:Match}(b:AW facts=true)(h:smM facts m):DJ m<=386/\m.Facts.length<=4:=by
 have h1:=RY (l:=m.Facts) (λf hm=>HX b (h.1 f hm));have d:=uF h.2.2.1;have c:=h.2.1;have g:=h.2.2.2;exact⟨by unfold DJ;omega,c⟩
theorem nK{l:List Stamp}{f:Fact}(h:f∈l.map Stamp.Fact):K5 l f=true:=by
 rw[List.mem_map] at h;obtain⟨s,hs,rfl⟩:=h;unfold K5 mQ;rw[List.find?_isSome];exact⟨s,hs,by simp⟩
theorem uY{rules:List Rule}{name:ByteArray}(h:∃r∈rules,name=r.Name):0<=BN rules name:=by
 obtain⟨r,hr,rfl⟩:=h;unfold BN
 split
 ·rename_i e;rw[List.findIdx?_eq_none_iff] at e;have:=e r hr;simp at this
 ·omega
theorem lC{rules:List Rule}{l:List Stamp}(h:AR rules=true){m:Match}(b:m∈GE rules (l.map Stamp.Fact)):KG rules l m=true:=by
 have h1:=aC h b;unfold KG;rw[decide_eq_true (uY h1.2)];simp only[Bool.true_and,List.all_eq_true];exact λf hf=>nK (h1.1.1 f hf)
def DU(rules:List Rule)(l:List Stamp)(fired:List Firing)(m:Match):Option Choice:=if (G9 rules l m&& !(MG fired (CW rules l m).Match.Rule (CW rules l m).Times))=true then some (CW rules l m) else none
theorem A5y{rules:List Rule}{l:List Stamp}{fired:List Firing}{m:Match}(h1:G9 rules l m=true)(b:MG fired (CW rules l m).Match.Rule (CW rules l m).Times=false):DU rules l fired m=some (CW rules l m):=by simp[DU,h1,b]
theorem uZ{rules:List Rule}{l:List Stamp}{fired:List Firing}{m:Match}(h:G9 rules l m=false\/MG fired (CW rules l m).Match.Rule (CW rules l m).Times=true):DU rules l fired m=none:=by
 rcases h with h|h<;>simp[DU,h]
theorem A2l{rules:List Rule}{l:List Stamp}(h:AR rules=true)(hl:C5 l=true){m:Match}(c:m∈GE rules (l.map Stamp.Fact)):G9 rules l m=true/\CW rules l m=NP rules l m:=by
 have:=lC h c;have b:G9 rules l m=true:=by simp[G9,h,hl,this]
 exact⟨b,by simp[CW,b]⟩
theorem QV{α β:Type}{g b:α->Option β}:∀{l:List α},(∀x∈l,g x=b x)->l.filterMap g=l.filterMap b
 | [],_=>rfl
 |x::l,h=>by rw[List.filterMap_cons,List.filterMap_cons,h x (by simp),QV (l:=l) (λy hy=>h y (by simp[hy]))]
theorem vA{rules:List Rule}{l:List Stamp}{fired:List Firing}(h:AR rules=true)(hl:C5 l=true){m:Match}(b:m∈GE rules (l.map Stamp.Fact)):DU rules l fired m=FH rules l fired m:=by
 have h1:=A2l h hl b;unfold DU FH;rw[h1.1,h1.2];have e:(NP rules l m).Match.Rule=m.Rule/\(NP rules l m).Times=BJ l m.Facts:=⟨rfl,rfl⟩;rw[e.1,e.2]
 cases MG fired m.Rule (BJ l m.Facts)<;>simp
theorem zA{rules:List Rule}{l:List Stamp}{fired:List Firing}{k:Nat}(hk:(DX rules (l.map Stamp.Fact)).length<=k):BY (((DX rules (l.map Stamp.Fact)).take k).filterMap (DU rules l fired))=EK rules l fired:=by
 rw[List.take_of_length_le hk];unfold EK
 split
 ·rename_i h;simp only[Bool.and_eq_true] at h;have:DX rules (l.map Stamp.Fact)=GE rules (l.map Stamp.Fact):=by simp[DX,h.1,L0 h.2]
  rw[this,QV (λm hm=>vA (fired:=fired) h.1 h.2 hm)]
 ·rename_i h;have:∀M:List Match,M.filterMap (DU rules l fired)=[]:=λM=>by
   rw[List.filterMap_eq_nil_iff];intro m _;refine uZ (.inl ?_);have:(AR rules&&C5 l)=false:=by simpa using h
   simp[G9,this]
  rw[this];rfl
theorem A5z{rules:List Rule}{l:List Stamp}{fired:List Firing}(h:AR rules=false\/C5 l=false):[]=EK rules l fired:=by
 rcases h with h|h<;>simp[EK,h]
theorem A7j{rules:List Rule}{l:List Stamp}{fired:List Firing}{k:Nat}(h:AR rules=true)(hl:C5 l=true)(hk:(GE rules (l.map Stamp.Fact)).length<=k):BY (((GE rules (l.map Stamp.Fact)).take k).filterMap (FH rules l fired))=EK rules l fired:=by
 rw[List.take_of_length_le hk];simp[EK,h,hl]
theorem eO{rules:List Rule}{l:List Stamp}(h:AR rules=true){k:Nat}{m:Match}(b:(GE rules (l.map Stamp.Fact))[k]?=some m):FU rules l m=NP rules l m:=by
 have:=lC h (List.mem_of_getElem? b);simp[FU,this]
theorem A6A{rules:List Rule}{l:List Stamp}{fired:List Firing}(h:AR rules=true){k:Nat}{m:Match}(c:(GE rules (l.map Stamp.Fact))[k]?=some m)(b:MG fired (FU rules l m).Match.Rule (FU rules l m).Times=false):FH rules l fired m=some (FU rules l m):=by
 rw[eO h c] at b⊢;have:MG fired m.Rule (BJ l m.Facts)=false:=b;simp[FH,this]
theorem A6B{rules:List Rule}{l:List Stamp}{fired:List Firing}(h:AR rules=true){k:Nat}{m:Match}(c:(GE rules (l.map Stamp.Fact))[k]?=some m)(b:MG fired (FU rules l m).Match.Rule (FU rules l m).Times=true):FH rules l fired m=none:=by
 rw[eO h c] at b;have:MG fired m.Rule (BJ l m.Facts)=true:=b;simp[FH,this]
theorem aD{rules:List Rule}{l:List Stamp}(h:AR rules=true)(hl:C5 l=true){k:Nat}{m:Match}(b:(GE rules (l.map Stamp.Fact))[k]?=some m):DJ m<=386/\m.Facts.length<=4:=
 uX (L0 hl) (aC h (List.mem_of_getElem? b)).1
theorem eP{rules:List Rule}{facts:List Fact}{k:Nat}{m:Match}(b:(DX rules facts)[k]?=some m):DJ m<=386/\m.Facts.length<=4:=by
 unfold DX at b
 split at b
 ·rename_i h;simp only[Bool.and_eq_true] at h;exact uX h.2 (aC h.1 (List.mem_of_getElem? b)).1
 ·simp at b
theorem aF{rules:List Rule}{l:List Stamp}{m:Match}(h:DJ m<=386/\m.Facts.length<=4):DJ (NP rules l m).Match<=386/\(NP rules l m).Times.length<=4:=⟨h.1,by simp only[NP,BJ,List.length_map];exact h.2⟩
theorem vB{rules:List Rule}{l:List Stamp}{fired:List Firing}(h:AR rules=true)(hl:C5 l=true){k:Nat}:∀x∈((GE rules (l.map Stamp.Fact)).take k).filterMap (FH rules l fired),DJ x.Match<=1048576/\x.Times.length<=12:=λx hx=>by
 rw[List.mem_filterMap] at hx;obtain⟨m,hm,he⟩:=hx;obtain⟨j,hj⟩:=List.getElem?_of_mem (List.mem_of_mem_take hm);have h1:=aF (rules:=rules) (l:=l) (aD h hl hj);unfold FH at he
 split at he
 ·cases he
 ·simp only[Option.some.injEq] at he;subst he;omega
theorem nL{rules:List Rule}{l:List Stamp}{facts:List Fact}{fired:List Firing}{k:Nat}:∀x∈((DX rules facts).take k).filterMap (DU rules l fired),DJ x.Match<=1048576/\x.Times.length<=12:=λx hx=>by
 rw[List.mem_filterMap] at hx;obtain⟨m,hm,he⟩:=hx;obtain⟨j,hj⟩:=List.getElem?_of_mem (List.mem_of_mem_take hm);have h1:=aF (rules:=rules) (l:=l) (eP hj);unfold DU at he
 split at he
 ·rename_i hc;simp only[Bool.and_eq_true] at hc;simp only[Option.some.injEq] at he;subst he;have:CW rules l m=NP rules l m:=by simp[CW,hc.1]
  rw[this];omega
 ·cases he
theorem gY{rules:List Rule}{l:List Stamp}{fired:List Firing}{x:Choice}(b:x∈EK rules l fired):AR rules=true/\C5 l=true/\∃m∈GE rules (l.map Stamp.Fact),x=NP rules l m/\MG fired m.Rule (BJ l m.Facts)=false:=by
 unfold EK at b
 split at b
 ·rename_i h;simp only[Bool.and_eq_true] at h;rw[tO,List.mem_filterMap] at b;obtain⟨m,hm,he⟩:=b;unfold FH at he
  split at he
  ·cases he
  ·rename_i hf;simp only[Option.some.injEq] at he;exact⟨h.1,h.2,m,hm,he.symm,by simpa using hf⟩
 ·cases b
theorem lD{α:Type}{c:α->Nat}{n:Nat}:∀{l:List α},(∀x∈l,c x<=n)->AI c l<=n*l.length
 | [],_=>by simp[AI]
 | x::l,h=>by
  have h1:=h x (by simp);have b:=lD (l:=l) (λy hy=>h y (by simp[hy]));simp only[AI,List.map_cons,List.sum_cons,List.length_cons,Nat.mul_add] at*;omega
def HY(e:Engine):List Choice:=if HT e=true then EK e.Rules e.Memory e.Fired else []
theorem vC{e:Engine}(h:HT e=true):EK e.Rules e.Memory e.Fired=HY e:=by simp[HY,h]
theorem vD{e:Engine}(h:HT e=false):[]=HY e:=by simp[HY,h]
end Go.Sy
namespace Go.Sy
open Go
theorem zB{f g h:Fact}(h1:HS f g<0)(b:HS g h<0):HS f h<0:=by
 have a:=J1.le f g h;have d:=J1.anti f g;have j:=J1.anti g h;have o:=J1.anti f h;have c:=J1.le h f g;omega
theorem nN{α:Type}{R:α->α->Prop}(o:∀a b c,R a b->R b c->R a c){l:List α}(h:∀k p f,l[k]?=some p->l[k+1]?=some f->R p f):l.Pairwise R:=by
 have key:∀(d i:Nat) f g,l[i]?=some f->l[i+1+d]?=some g->R f g:=λd=>by
  induction d with
  |zero=>exact λi f g hf hg=>h i f g hf hg
  | succ d ih=>
   intro i f g hf hg;have:=lS hg;obtain⟨m,hm⟩:=sL (l:=l) (i:=i+1+d) (by omega);exact o _ _ _ (ih i f m hf hm) (h (i+1+d) m g hm hg)
 rw[List.pairwise_iff_getElem];intro i j hi hj hij;refine key (j-i-1) i _ _ (List.getElem?_eq_getElem hi) ?_;rw[show i+1+(j-i-1)=j from by omega];exact List.getElem?_eq_getElem hj
theorem YE{α:Type}{R:α->α->Prop}{l:List α}(h:l.Pairwise R){i j:Nat}{p f:α}(b:l[i]?=some p)(c:l[j]?=some f)(d:i<j):R p f:=by
 rw[List.pairwise_iff_getElem] at h;have h1:=lS b;have g:=lS c;have:=h i j h1 g d;rw[List.getElem?_eq_getElem h1,Option.some.injEq] at b;rw[List.getElem?_eq_getElem g,Option.some.injEq] at c;rw[b,c] at this;exact this
theorem YF{l:List Fact}:AW l=true↔l.length<=24/\(∀f∈l,BI f=true)/\l.Pairwise (λf g=>HS f g<0):=by
 constructor
 ·intro h;refine⟨OG h,λf hf=>HX h hf,nN (R:=λf g=>HS f g<0) (λ_ _ _ h1 b=>zB h1 b) (λk p f hp hf=>?_)⟩;unfold AW at h;simp only[Bool.and_eq_true,List.all_eq_true,List.mem_range] at h;have:=h.2 (k+1) (lS hf);unfold GA at this;rw[hf] at this;simp only[Nat.add_sub_cancel,hp] at this;simpa using (Bool.and_eq_true_iff.1 this).2
 ·rintro⟨h1,b,c⟩;unfold AW;simp only[Bool.and_eq_true,decide_eq_true_eq,List.all_eq_true,List.mem_range];refine⟨h1,λk hk=>?_⟩;obtain⟨f,hf⟩:=sL hk
  by_cases h0:k=0
  ·exact UJ hf (b f (List.mem_of_getElem? hf)) h0
  ·obtain⟨p,hp⟩:=sL (l:=l) (i:=k-1) (by omega);exact UK hf hp rfl (b f (List.mem_of_getElem? hf)) (YE c hp hf (by omega))
theorem mem_iff{l:List Stamp}:C5 l=true↔(∀s∈l,1<=s.Time/\s.Time<=200)/\l.Pairwise (λa b=>a.Time≠b.Time)/\l.length<=24/\(∀s∈l,BI s.Fact=true)/\l.Pairwise (λa b=>HS a.Fact b.Fact<0):=by
 constructor
 ·intro h;have hf:=YF.1 (L0 h);rw[List.length_map,List.pairwise_map] at hf;refine⟨λs hs=>XM h hs,?_,hf.1,λs hs=>hf.2.1 _ (List.mem_map_of_mem hs),hf.2.2⟩;unfold C5 at h;simp only[Bool.and_eq_true,List.all_eq_true,List.mem_range] at h;rw[List.pairwise_iff_getElem];intro i j hi hj hij e;have h1:=h.1 j hj;have hq:l[j]?=some l[j]:=List.getElem?_eq_getElem hj;rw[XK hq (List.getElem?_eq_getElem hi) hij e] at h1
  cases h1
 ·rintro⟨h1,c,d,g,o⟩;unfold C5;simp only[Bool.and_eq_true,List.all_eq_true,List.mem_range];refine⟨λk hk=>?_,YF.2 ⟨by rw[List.length_map];exact d,λf hf=>?_,by rw[List.pairwise_map];exact o⟩⟩
  ·obtain⟨s,hs⟩:=sL hk;have:=h1 s (List.mem_of_getElem? hs);exact cO hs (by unfold GO;simp;omega) (λi hi q hq=>YE c hq hs hi)
  ·obtain⟨s,hs,rfl⟩:=List.mem_map.1 hf;exact g s hs
def B1Q(f:Fact)(s:Stamp):List Stamp->List Stamp
 | []=> [s]
 |x::l=>if 0<HS x.Fact f then s::x::l else x::B1Q f s l
theorem B2H(f:Fact)(s:Stamp):∀(l q:List Stamp),l.foldl (A9J f s) (q,true)=(q++l,true)
 | [],q=>by simp
 | x::l,q=>by
  rw[List.foldl_cons,show A9J f s (q,true) x=(q++ [x],true) from by simp[A9J],B2H f s l];simp
theorem B2I(f:Fact)(s:Stamp):∀(l q:List Stamp),(if (l.foldl (A9J f s) (q,false)).2=true then(l.foldl (A9J f s) (q,false)).1 else(l.foldl (A9J f s) (q,false)).1++ [s])=q++B1Q f s l
 | [],q=>by simp[B1Q]
 | x::l,q=>by
  rw[List.foldl_cons]
  by_cases h:0<HS x.Fact f
  ·rw[show A9J f s (q,false) x=(q++ [s]++ [x],true) from by simp[A9J,h],B2H f s l];simp[B1Q,h]
  ·rw[show A9J f s (q,false) x=(q++ [x],false) from by simp[A9J,h],B2I f s l];simp[B1Q,h]
theorem A9W(f:Fact)(s:Stamp)(l:List Stamp):B1Y f s l=B1Q f s l:=by
 have:=B2I f s l [];unfold B1Y A8S;rw[List.take_length];simpa using this
theorem A8u(f:Fact)(s:Stamp):∀l:List Stamp,List.Perm (B1Q f s l) (s::l)
 | []=>List.Perm.refl _
 | x::l=>by
  unfold B1Q
  split
  ·exact List.Perm.refl _
  ·exact((A8u f s l).cons x).trans (List.Perm.swap s x l)
theorem B2J{l:List Stamp}{f:Fact}:K5 l f=true↔∃x∈l,x.Fact=f:=by
 constructor
 ·intro h
  cases hh:K5 l f with
  |false=>rw[hh] at h;cases h
  | true=>
   unfold K5 mQ at hh;rw[List.find?_isSome] at hh;obtain⟨x,hx,e⟩:=hh;exact⟨x,hx,by simpa using e⟩
 ·rintro⟨x,hx,e⟩;rw[<-e];exact nK (List.mem_map_of_mem hx)
theorem B2Y{e:Engine}:HT e=true↔AR e.Rules=true/\C5 e.Memory=true/\(0<=e.Clock/\e.Clock<=200)/\e.Fired.length<=40/\e.Log.length<=500/\(∀s∈e.Memory,s.Time<=e.Clock)/\(∀f∈e.Fired,JS e f=true)/\e.Fired.Pairwise (λf g=>¬(f.Rule=g.Rule/\f.Times=g.Times))/\(∀x∈e.Log,AN x=true):=by
 have hfi:(List.range e.Fired.length).all (KD e)=true↔(∀f∈e.Fired,JS e f=true)/\e.Fired.Pairwise (λf g=>¬(f.Rule=g.Rule/\f.Times=g.Times)):=by
  simp only[List.all_eq_true,List.mem_range]
  constructor
  ·intro h;have at_:∀k f,e.Fired[k]?=some f->JS e f=true/\MG (e.Fired.take k) f.Rule f.Times=false:=λk f hk=>by
    have:=h k (lS hk);unfold KD at this;rw[hk] at this;simpa using this
   refine⟨λf hf=>?_,?_⟩
   ·obtain⟨k,hk⟩:=List.getElem?_of_mem hf;exact(at_ k f hk).1
   ·rw[List.pairwise_iff_getElem];intro i j hi hj hij hc;have h1:=(at_ j _ (List.getElem?_eq_getElem hj)).2;have o:=gI (l:=e.Fired.take j) (i:=i) (f:=e.Fired[i]) (r:=e.Fired[j].Rule) (ts:=e.Fired[j].Times) (by rw[List.getElem?_take,if_pos hij];exact List.getElem?_eq_getElem hi) hc.1 hc.2;rw[h1] at o;cases o
  ·rintro⟨h1,o⟩ k hk;obtain⟨f,hf⟩:=sL hk;refine jZ hf (h1 f (List.mem_of_getElem? hf)) (gJ (λi hi g hg hc=>?_)).symm;rw[List.getElem?_take] at hg
   split at hg
   ·rename_i hik;exact YE o hg hf hik hc
   ·cases hg
 unfold HT GO;simp only[Bool.and_eq_true,decide_eq_true_eq,hfi,List.all_eq_true]
 constructor
 ·rintro⟨a,b,c,d,f,g,⟨h,i⟩,j⟩;exact⟨a,b,c,d,f,g,h,i,j⟩
 ·rintro⟨a,b,c,d,f,g,h,i,j⟩;exact⟨a,b,c,d,f,g,⟨h,i⟩,j⟩
theorem B0l{e:Engine}{f:Fact}(h:HT e=true)(b:K5 e.Memory f=true):BI f=true:=by
 obtain⟨x,hx,rfl⟩:=B2J.1 b;exact(mem_iff.1 (A8H h).1).2.2.2.1 x hx
end Go.Sy
namespace Go.Sy
open Go
abbrev z0F:Fact:=⟨⟨#[]⟩,[]⟩
def B0t(e:Engine)(rule:ByteArray):Engine:=⟨e.Rules,e.Memory,e.Clock,e.Fired,true,e.Log++ [⟨6,rule,z0F⟩]⟩
def A8X(m:Match)(e:Engine)(a:Action):Engine:=
 if a.Kind=1 then(if (!(K5 e.Memory (A8L a.Pattern m.Binding))&&decide (e.Memory.length<24))=true then A8J e (A8L a.Pattern m.Binding) 4 m.Rule else e)
 else if a.Kind=2 then(if K5 e.Memory (A8L a.Pattern m.Binding)=true then A8G e (A8L a.Pattern m.Binding) 5 m.Rule else e)
 else if a.Kind=3 then B0t e m.Rule else e
section
variable {m:Match} {e:Engine} {a:Action}
theorem A9O(h:a.Kind=1)(h1:K5 e.Memory (A8L a.Pattern m.Binding)=false)(b:e.Memory.length<24):A8J e (A8L a.Pattern m.Binding) 4 m.Rule=A8X m e a:=by simp[A8X,h,h1,b]
theorem A8m(h:a.Kind=1)(h1:K5 e.Memory (A8L a.Pattern m.Binding)=true):e=A8X m e a:=by simp[A8X,h,h1]
theorem A8n(h:a.Kind=1)(b:¬e.Memory.length<24):e=A8X m e a:=by
 unfold A8X;rw[if_pos h,decide_eq_false b];simp
theorem A9P(h:a.Kind=2)(h1:K5 e.Memory (A8L a.Pattern m.Binding)=true):A8G e (A8L a.Pattern m.Binding) 5 m.Rule=A8X m e a:=by simp[A8X,h,h1]
theorem A8o(h:a.Kind=2)(h1:K5 e.Memory (A8L a.Pattern m.Binding)=false):e=A8X m e a:=by simp[A8X,h,h1]
theorem A9F(h:a.Kind=3):B0t e m.Rule=A8X m e a:=by simp[A8X,h]
theorem A9Q(h1:a.Kind≠1)(b:a.Kind≠2)(c:a.Kind≠3):e=A8X m e a:=by simp[A8X,h1,b,c]
end
theorem B1R{l:List Stamp}(h:∀s∈l,0<s.Time)(f:Fact):0<GG l f↔K5 l f=true:=by
 unfold GG K5
 cases e:mQ l f with
 |none=>simp
 | some s=>
  have:=h s (List.mem_of_find?_eq_some e);simpa using this
structure Ac (k:Nat) (s e:Engine):Prop where
  rules:e.Rules=s.Rules
  fired:e.Fired=s.Fired
  log:e.Log.length<=s.Log.length+k
  mem:e.Memory.length<=s.Memory.length+k
  clk0:s.Clock<=e.Clock
  clk1:e.Clock<=s.Clock+k
  pos:(∀x∈s.Memory,0<x.Time)->0<=s.Clock->∀x∈e.Memory,0<x.Time
theorem Ac.refl(e:Engine):Ac 0 e e:=⟨rfl,rfl,by simp,by simp,Int.le_refl _,by simp,λh _=>h⟩
theorem Ac.act{k:Nat}{s e:Engine}(m:Match)(a:Action)(h:Ac k s e):Ac (k+1) s (A8X m e a):=by
 obtain⟨h1,b,f,g,d,j,c⟩:=h;have same:Ac (k+1) s e:=⟨h1,b,by omega,by omega,d,by omega,c⟩;unfold A8X
 split
 ·split
  ·refine⟨h1,b,by simp[A8J];omega,?_,by simp only[A8J];omega,by simp only[A8J];omega,λhp h0 x hx=>?_⟩
   ·simp only[A8J,A9W,(A8u _ _ _).length_eq,List.length_cons];omega
   ·simp only[A8J,A9W] at hx
    rcases List.mem_cons.1 ((A8u _ _ _).mem_iff.1 hx) with rfl|hx
    ·simp only;omega
    ·exact c hp h0 x hx
  ·exact same
 ·split
  ·split
   ·refine⟨h1,b,by simp[A8G];omega,?_,d,by simp only[A8G];omega,λhp h0 x hx=>c hp h0 x (List.mem_filter.1 hx).1⟩;have:=List.length_filter_le (λx:Stamp=> !decide (x.Fact=A8L a.Pattern m.Binding)) e.Memory;simp only[A8G,drL];omega
   ·exact same
  ·split
   ·exact⟨h1,b,by simp[B0t];omega,by simp only[B0t];omega,d,by simp only[B0t];omega,c⟩
   ·exact same
def A7y(m:Match)(l:List Action)(s:Engine)(k:Nat):Engine:=(l.take k).foldl (A8X m) s
theorem A8A{m:Match}{l:List Action}{s:Engine}{k:Nat}{a:Action}(h:l[k]?=some a):A8X m (A7y m l s k) a=A7y m l s (k+1):=by
 unfold A7y;rw[A1 h,List.foldl_append];rfl
theorem B1j(m:Match)(s:Engine):∀(l:List Action) (n:Nat) (e:Engine),Ac n s e->Ac (n+l.length) s (l.foldl (A8X m) e)
 | [],_,_,h=>h
 | a::l,n,e,h=>by
  have:=B1j m s l (n+1) (A8X m e a) (h.act m a);rw[List.length_cons,show n+(l.length+1)=n+1+l.length from by omega];exact this
theorem acK{m:Match}{l:List Action}{s:Engine}(hl:l.length<=2)(k:Nat):Ac 2 s (A7y m l s k):=by
 have h:=B1j m s (l.take k) 0 s (Ac.refl s);have f:(l.take k).length<=2:=by rw[List.length_take];omega
 obtain⟨h1,b,g,j,c,o,d⟩:=h;exact⟨h1,b,by unfold A7y;omega,by unfold A7y;omega,c,by unfold A7y;omega,d⟩
def c0(e:Engine):Choice:=((HY e)[0]?).getD z0C
def stR(e:Engine)(c:Choice):Rule:=(e.Rules[c.Order.toNat]?).getD ⟨⟨#[]⟩,0,[],[]⟩
def stS(e:Engine)(c:Choice):Engine:=⟨e.Rules,e.Memory,e.Clock,e.Fired++ [⟨c.Match.Rule,c.Times⟩],e.Halted,e.Log++ [⟨3,c.Match.Rule,z0F⟩]⟩
def stB(e:Engine):Bool:=HT e&&(!e.Halted&&(decide (0<(HY e).length)&&(decide (e.Clock<=198)&&(decide (e.Fired.length<40)&&decide (e.Log.length<498)))))
def stE(e:Engine):Engine:=if stB e=true then(stR e (c0 e)).Then.foldl (A8X (c0 e).Match) (stS e (c0 e)) else e
theorem A8j{e:Engine}(h:stB e=false):e=stE e/\false=stB e:=by simp[stE,h]
theorem B0z{e:Engine}{c:Choice}{r:Rule}{k:Nat}(h:stB e=true)(hc:(HY e)[0]?=some c)(b:e.Rules[c.Order.toNat]?=some r)(hk:r.Then.length<=k):A7y c.Match r.Then (stS e c) k=stE e/\true=stB e:=by
 have d:c0 e=c:=by simp[c0,hc]
 have f:stR e c=r:=by simp[stR,b]
 refine⟨?_,h.symm⟩;unfold stE A7y;rw[if_pos h,d,f,List.take_of_length_le hk]
theorem B0L{e:Engine}(h1:HT e=true)(b:e.Halted=false)(c:0<(HY e).length)(d:e.Clock<=198)(f:e.Fired.length<40)(g:e.Log.length<498):stB e=true:=by simp[stB,h1,b,c,d,f,g]
theorem A9r{e:Engine}(h:HT e=false):stB e=false:=by simp[stB,h]
theorem A9s{e:Engine}(h:e.Halted=true):stB e=false:=by simp[stB,h]
theorem A8U{e:Engine}(h:¬0<(HY e).length\/¬e.Clock<=198\/¬e.Fired.length<40\/¬e.Log.length<498):stB e=false:=by
 rcases h with h|h|h|h<;>simp only[stB,decide_eq_false h,Bool.and_false,Bool.false_and]
theorem A9C{e:Engine}(h:stB e=true):HT e=true/\e.Halted=false/\0<(HY e).length/\e.Clock<=198/\e.Fired.length<40/\e.Log.length<498:=by
 simp only[stB,Bool.and_eq_true,decide_eq_true_eq,Bool.not_eq_true'] at h;exact h
theorem B2K{e:Engine}{c:Choice}{k:Nat}(h:(HY e)[k]?=some c):HT e=true/\∃m∈GE e.Rules (e.Memory.map Stamp.Fact),c=NP e.Rules e.Memory m/\MG e.Fired m.Rule (BJ e.Memory m.Facts)=false:=by
 have hm:=List.mem_of_getElem? h;unfold HY at hm
 split at hm
 ·rename_i he;obtain⟨_,_,m,h1,b,d⟩:=gY hm;exact⟨he,m,h1,b,d⟩
 ·cases hm
theorem B1u{rules:List Rule}{name:ByteArray}(h:0<=BN rules name):(BN rules name).toNat<rules.length:=by
 unfold BN at*
 split
 ·rename_i e;rw[e] at h;simp at h
 ·rename_i i e;rw[List.findIdx?_eq_some_iff_getElem] at e;obtain⟨hi,_⟩:=e;simpa using hi
theorem B0F{e:Engine}{c:Choice}{k:Nat}(h:(HY e)[k]?=some c):(0<=c.Order/\c.Order<e.Rules.length)/\DJ c.Match<=386/\c.Match.Facts.length<=4/\c.Times.length<=4/\uD c.Match.Binding/\c.Match.Rule.size<=8:=by
 obtain⟨he,m,hm,rfl,_⟩:=B2K h;have hp:=A8H he;have h1:=aC hp.2.1 hm;have b:=uX (L0 hp.1) h1.1;have d:=uY h1.2;have g:=B1u d;have f:=aF (rules:=e.Rules) (l:=e.Memory) b;refine⟨⟨d,by show BN _ _<_;omega⟩,f.1,b.2,f.2,h1.1.2.2.1,h1.1.2.2.2⟩
theorem B0G{rules:List Rule}(h:AR rules=true){k:Nat}{r:Rule}(b:rules[k]?=some r):r.Then.length<=2:=(OH (X9 h b).1).2.1
theorem B2Z{l:List Stamp}(h:C5 l=true):∀s∈l,0<s.Time:=λs hs=>by have:=XM h hs;omega
theorem B1A{s:ByteArray}(h:EP s=true):s.size<=9:=by
 unfold EP at h
 rcases Bool.or_eq_true_iff.1 h with h|h
 ·have:=IV h;omega
 ·exact A2e h
theorem B1k{b:List Pair}(hb:uD b)(t:ByteArray):(EJ b t).size<=8:=by
 unfold EJ nF
 split
 ·rename_i h;simpa using (IV h).2
 ·split
  ·cases e:b.find? (λx=>decide (x.Var=t)) with
   |none=>exact(by decide:(0:Nat)<=8)
   |some x=>simpa using (hb.2 x (List.mem_of_find?_eq_some e)).2
  ·exact(by decide:(0:Nat)<=8)
theorem B0U{p:Pattern}{b:List Pair}(hb:uD b):F9 (A8L p b)<=35:=by
 unfold A8L
 split
 ·rename_i h;simp only[A8q,Bool.and_eq_true] at h;have hp:=h.1;unfold CK at hp;simp only[Bool.and_eq_true,decide_eq_true_eq] at hp;have h1:p.Rel.size<=8:=by
   have:=hp.1.1;unfold FK at this;simp only[Bool.and_eq_true] at this;exact(IV this.1).2
  have c:∀l:List ByteArray,((l.map (EJ b)).map (·.size)).sum<=8*l.length:=λl=>by
   induction l with
   |nil=>simp
   | cons x l ih=>
    have:=B1k hb x;simp only[List.map_cons,List.sum_cons,List.length_cons] at*;omega
  have d:=c p.Args;have f:=hp.1.2;simp only[F9,M9,List.length_map];omega
 ·exact(by decide:(0:Nat)<=35)
end Go.Sy
namespace Go.Sy
open Go
theorem A9m{α:Type}{c:α->Nat}{n:Nat}{l:List α}(h:∀x∈l,c x<=n):DD c l<=(n+1)*l.length:=by
 have:=lD h;unfold DD;rw[Nat.add_mul];omega
theorem A9x{s:ByteArray}(h:FK s=true):s.size<=8:=by
 unfold FK at h;simp only[Bool.and_eq_true] at h;exact(IV h.1).2
theorem B2L{p:Pattern}(h:CK p=true):E8 p<=38:=by
 unfold CK at h;simp only[Bool.and_eq_true,decide_eq_true_eq,List.all_eq_true] at h;have h1:=A9x h.1.1;have c:∀l:List ByteArray,(∀x∈l,EP x=true)->(l.map (·.size)).sum<=9*l.length:=λl=>by
  induction l with
  |nil=>simp
  | cons x l ih=>
   intro hx;have a:=B1A (hx x (by simp));have b:=ih (λy hy=>hx y (by simp[hy]));simp only[List.map_cons,List.sum_cons,List.length_cons];omega
 have d:=c p.Args h.2;have f:=h.1.2;unfold E8 M9;omega
theorem B1l{p:Pattern}(h:B6 p=true):E8 p=0:=by
 unfold B6 at h;simp only[Bool.and_eq_true,decide_eq_true_eq] at h;have b:p.Args=[]:=List.eq_nil_of_length_eq_zero h.2;unfold E8 M9;rw[h.1,b];rfl
theorem B1Z{x:Cond}(h:BD x=true):BW x<=38:=by
 unfold BD at h
 split at h
 ·simp only[Bool.and_eq_true,decide_eq_true_eq] at h;have:=B2L h.1;unfold BW;rw[h.2.1,h.2.2];have e:(⟨#[]⟩:ByteArray).size=0:=rfl;omega
 ·split at h
  ·simp only[Bool.and_eq_true] at h;have h1:=B1A h.1;have b:=B1A h.2.1;have c:=B1l h.2.2;unfold BW;omega
  ·cases h
theorem B1v{a:Action}(h:D3 a=true):CV a<=38:=by
 unfold D3 at h;unfold CV
 split at h
 ·exact B2L h
 ·split at h
  ·have:=B1l h;omega
  ·cases h
theorem B0c{r:Rule}(h:CR r=true):BG r<=242/\gH r<=4:=by
 have hl:=OH h;unfold CR GO at h;simp only[Bool.and_eq_true,decide_eq_true_eq,List.all_eq_true,List.mem_range] at h;have h1:=A9x h.1;have b:DD BW r.If<=39*r.If.length:=A9m (λx hx=>by
  obtain⟨k,hk⟩:=List.getElem?_of_mem hx;have:=h.2.2.2.2.1 k (lS hk);unfold GP at this;rw[hk] at this;simp only[Bool.and_eq_true] at this;exact B1Z this.1)
 have c:DD CV r.Then<=39*r.Then.length:=A9m (λx hx=>by
  have:=h.2.2.2.2.2.1 x hx;unfold IG at this;simp only[Bool.and_eq_true] at this;exact B1v this.1)
 refine⟨by unfold BG;omega,?_⟩;have d:=cQ r.If r.If.length;have f:gH r=KZ r.If r.If.length:=rfl;omega
theorem B1S{x:Event}(h:AN x=true):L9 x<=43:=by
 unfold AN at h;unfold L9
 split at h
 ·simp only[Bool.and_eq_true,decide_eq_true_eq] at h;have:=aB h.2;rw[h.1];have e:(⟨#[]⟩:ByteArray).size=0:=rfl;omega
 ·split at h
  ·simp only[Bool.and_eq_true,decide_eq_true_eq] at h;have h1:=A9x h.1;have b:x.Fact.Args=[]:=List.eq_nil_of_length_eq_zero h.2.2;have e:(⟨#[]⟩:ByteArray).size=0:=rfl;unfold F9 M9;rw[h.2.1,b];simp only[List.map_nil,List.sum_nil,List.length_nil];omega
  ·split at h
   ·simp only[Bool.and_eq_true] at h;have h1:=A9x h.1;have b:=aB h.2;omega
   ·cases h
theorem B1a{e:Engine}{f:Firing}(g:AR e.Rules=true)(h:JS e f=true):DG f<=12:=by
 unfold JS at h
 split at h
 ·cases h
 ·rename_i r c;have h0:=X9 g c;have hs:=B0c h0.1;have hn:=(OH h0.1).2.2;simp only[Bool.and_eq_true,decide_eq_true_eq] at h;have hf:0<=BN e.Rules f.Rule:=by simp_all
  have hl:f.Times.length=gH r:=by simp_all
  have j:f.Rule.size<=8:=by
   unfold BN at hf
   split at hf
   ·omega
   ·rename_i i b;rw[List.findIdx?_eq_some_iff_getElem] at b;obtain⟨hi,hq,_⟩:=b;have d:e.Rules[i].Name=f.Rule:=by simpa using hq
    have:=(OH (X9 g (List.getElem?_eq_getElem hi)).1).2.2;rw[d] at this;exact this
  unfold DG;omega
theorem B0H{e:Engine}(h:HT e=true):DI e<=30000:=by
 rw[B2Y] at h;obtain⟨hr,hm,hc,hf,hl,_,hfi,_,hev⟩:=h;have h1:DD BG e.Rules<=243*e.Rules.length:=A9m (λr hx=>(B0c (YC hr hx)).1);have b:=YA hr;rw[mem_iff] at hm;have c:DD CM e.Memory<=36*e.Memory.length:=A9m (λs hs=>aB (hm.2.2.2.1 s hs));have d:=hm.2.2.1;have g:DD DG e.Fired<=13*e.Fired.length:=A9m (λf hx=>B1a hr (hfi f hx));have j:DD L9 e.Log<=44*e.Log.length:=A9m (λx hx=>B1S (hev x hx));unfold DI;omega
theorem A9n{α:Type}(c:α->Nat)(l m:List α):DD c (l++m)=DD c l+DD c m:=by
 unfold DD;rw[List.length_append,B2G];omega
theorem B0V{α:Type}(c:α->Nat)(x:α):DD c [x]=1+c x:=by unfold DD;simp[AI]
theorem B1T{α:Type}{c:α->Nat}{l m:List α}(h:List.Perm l m):DD c l=DD c m:=by
 unfold DD;rw[h.length_eq,B1t h]
theorem A9y{α:Type}(c:α->Nat)(x:α)(l:List α):DD c (x::l)=1+c x+DD c l:=by unfold DD;simp only[List.length_cons,AI,List.map_cons,List.sum_cons];omega
theorem B1B{α:Type}(c:α->Nat):DD c []=0:=by simp[DD,AI]
theorem B1U(l:List Stamp)(f:Fact):DD CM (drL l f)<=DD CM l:=by
 unfold drL
 induction l with
 |nil=>simp
 | cons x l ih=>
  rw[List.filter_cons,A9y]
  split
  ·rw[A9y];omega
  ·omega
theorem B2a{m:Match}(d:DJ m<=386)(hb:uD m.Binding)(f:m.Rule.size<=8)(e:Engine)(a:Action):DI (A8X m e a)<=DI e+100:=by
 have hi:=B0U (p:=a.Pattern) hb;unfold A8X
 split
 ·split
  ·unfold DI A8J;simp only[A9W,B1T (A8u _ _ _),A9y,A9n,B1B];have c:CM ⟨A8L a.Pattern m.Binding,e.Clock+1⟩=F9 (A8L a.Pattern m.Binding):=rfl;have b:L9 ⟨4,m.Rule,A8L a.Pattern m.Binding⟩=m.Rule.size+F9 (A8L a.Pattern m.Binding):=rfl;rw[c,b];omega
  ·omega
 ·split
  ·split
   ·unfold DI A8G;simp only[A9n,B0V];have:=B1U e.Memory (A8L a.Pattern m.Binding);have b:L9 ⟨5,m.Rule,A8L a.Pattern m.Binding⟩=m.Rule.size+F9 (A8L a.Pattern m.Binding):=rfl;omega
   ·omega
  ·split
   ·unfold DI B0t;simp only[A9n,B0V];have b:L9 ⟨6,m.Rule,z0F⟩=m.Rule.size+F9 z0F:=rfl;have g:F9 z0F=0:=rfl;omega
   ·omega
theorem B1m{m:Match}(b:DJ m<=386)(hb:uD m.Binding)(c:m.Rule.size<=8):∀(l:List Action) (e:Engine),DI (l.foldl (A8X m) e)<=DI e+100*l.length
 | [],e=>by simp
 | a::l,e=>by
  have h1:=B2a b hb c e a;have d:=B1m b hb c l (A8X m e a);simp only[List.foldl_cons,List.length_cons];omega
theorem B3A{e:Engine}{c:Choice}(h1:c.Match.Rule.size<=8)(b:c.Times.length<=4):DI (stS e c)<=DI e+50:=by
 unfold DI stS;simp only[A9n,B0V];have d:DG ⟨c.Match.Rule,c.Times⟩=c.Match.Rule.size+c.Times.length:=rfl;have f:L9 ⟨3,c.Match.Rule,z0F⟩=c.Match.Rule.size+F9 z0F:=rfl;have g:F9 z0F=0:=rfl;omega
theorem B3q{e:Engine}(h:stB e=true):(HY e)[0]?=some (c0 e)/\e.Rules[(c0 e).Order.toNat]?=some (stR e (c0 e))/\(stR e (c0 e)).Then.length<=2:=by
 have hp:=A9C h;obtain⟨c,hc⟩:=sL hp.2.2.1;have d:c0 e=c:=by simp[c0,hc]
 rw[d];have hr:=B0F hc;obtain⟨r,b⟩:=sL (l:=e.Rules) (i:=c.Order.toNat) (by omega);have f:stR e c=r:=by simp[stR,b]
 rw[f];exact⟨hc,b,B0G (A8H hp.1).2.1 b⟩
theorem B3B{e:Engine}(h:DI e<=1048576):DI (stE e)<=1048576:=by
 unfold stE
 split
 ·rename_i hb;have hc:=B3q hb;have hr:=B0F hc.1;have h1:=B0H (A9C hb).1;have b:=B3A (e:=e) hr.2.2.2.2.2 hr.2.2.2.1;have c:=B1m hr.2.1 hr.2.2.2.2.1 hr.2.2.2.2.2 (stR e (c0 e)).Then (stS e (c0 e));have d:100*(stR e (c0 e)).Then.length<=100*2:=Nat.mul_le_mul_left _ hc.2.2;omega
 ·exact h
theorem B1b:P9 z0F:=⟨(by decide:(0:Nat)<=9223372036854775807),by intro x hx;cases hx⟩
theorem B2b{p:Pattern}{b:List Pair}(hb:uD b):P9 (A8L p b):=by
 unfold A8L
 split
 ·rename_i h;simp only[A8q,Bool.and_eq_true] at h;have hp:=h.1;unfold CK at hp;simp only[Bool.and_eq_true] at hp;have h1:=A9x hp.1.1;refine⟨by show p.Rel.size<=_;omega,λx hx=>?_⟩;obtain⟨t,_,rfl⟩:=List.mem_map.1 hx;have:=B1k hb t;unfold VP;omega
 ·exact B1b
theorem A9X{α:Type}{p:α->Prop}{l m:List α}(h1:LR p l)(b:LR p m):LR p (l++m):=λx hx=>by
 rcases List.mem_append.1 hx with h|h
 ·exact h1 x h
 ·exact b x h
theorem A9Y{α:Type}{p:α->Prop}{x:α}(h:p x):LR p [x]:=λy hy=>by simp only[List.mem_singleton] at hy;rw[hy];exact h
theorem B0M{n:Int}(h: -9223372036854775808<=n/\n<=9223372036854775807):okI n:=h
theorem B3C{m:Match}(hb:uD m.Binding)(j:m.Rule.size<=8){e:Engine}(a:Action)(hc: -1000<=e.Clock/\e.Clock<=1000)(h:QC e):QC (A8X m e a):=by
 have hi:=B2b (p:=a.Pattern) hb;have hrs:VP m.Rule:=by unfold VP;omega
 obtain⟨h1,b,f,c,g,d⟩:=h;unfold A8X
 split
 ·split
  ·refine⟨h1,?_,by simp only[A8J];unfold okI;omega,c,trivial,A9X d (A9Y ⟨B0M (n:=4) (by omega),hrs,hi⟩)⟩;intro x hx;simp only[A8J,A9W] at hx
   rcases List.mem_cons.1 ((A8u _ _ _).mem_iff.1 hx) with rfl|hx
   ·exact⟨hi,B0M (n:=e.Clock+1) (by omega)⟩
   ·exact b x hx
  ·exact⟨h1,b,f,c,g,d⟩
 ·split
  ·split
   ·exact⟨h1,λx hx=>b x (List.mem_filter.1 hx).1,f,c,trivial,A9X d (A9Y ⟨B0M (n:=5) (by omega),hrs,hi⟩)⟩
   ·exact⟨h1,b,f,c,g,d⟩
  ·split
   ·exact⟨h1,b,f,c,trivial,A9X d (A9Y ⟨B0M (n:=6) (by omega),hrs,B1b⟩)⟩
   ·exact⟨h1,b,f,c,g,d⟩
theorem B1n{m:Match}(hb:uD m.Binding)(b:m.Rule.size<=8){s:Engine}(hc: -900<=s.Clock/\s.Clock<=900){l:List Action}(hl:l.length<=2)(h:QC s):∀k,k<=l.length->QC (A7y m l s k)
 |0,_=>h
 | k+1,hk=>by
  obtain⟨a,ha⟩:=sL (l:=l) (i:=k) (by omega);rw[<-A8A ha];have c:=acK (m:=m) (s:=s) hl k;exact B3C hb b a ⟨by have:=c.clk0;omega,by have:=c.clk1;omega⟩ (B1n hb b hc hl h k (by omega))
theorem B2M{l:List Stamp}(h:C5 l=true)(fs:List Fact):LR okI (BJ l fs):=λx hx=>by
 obtain⟨f,_,rfl⟩:=List.mem_map.1 hx;have:=cY h f;unfold okI;omega
theorem B3D{e:Engine}{c:Choice}{k:Nat}(h:QC e)(hc:(HY e)[k]?=some c):QC (stS e c):=by
 obtain⟨h1,b,d,f,j,g⟩:=h;have hr:=B0F hc;obtain⟨he,m,hm,rfl,_⟩:=B2K hc;have hrs:VP (NP e.Rules e.Memory m).Match.Rule:=by unfold VP;omega
 exact⟨h1,b,d,A9X f (A9Y ⟨hrs,B2M (A8H he).1 _⟩),trivial,A9X g (A9Y ⟨B0M (n:=3) (by omega),hrs,B1b⟩)⟩
theorem B3E{e:Engine}(h:QC e):QC (stE e):=by
 unfold stE
 split
 ·rename_i hb;have hp:=A9C hb;have hc:=B3q hb;have hr:=B0F hc.1;have hq:=A8H hp.1;have:=B1n (m:=(c0 e).Match) hr.2.2.2.2.1 hr.2.2.2.2.2 (s:=stS e (c0 e)) ⟨by show-900<=e.Clock;omega,by show e.Clock<=900;omega⟩ hc.2.2 (B3D h hc.1) _ (Nat.le_refl _);unfold A7y at this
  rwa [List.take_length] at this
 ·exact h
end Go.Sy
namespace Go.Sy
open Go
theorem B1o{p:Pattern}(h:CK p=true):p.Args.length<=3:=by
 unfold CK at h;simp only[Bool.and_eq_true,decide_eq_true_eq] at h;exact h.1.2
theorem A8p{m:Match}{e:Engine}{a:Action}(h:a.Kind=3):wrE ⟨e.Rules,e.Memory,e.Clock,e.Fired,true,e.Log⟩ 6 m.Rule ⟨⟨#[]⟩,[]⟩=A8X m e a:=A9F (m:=m) (e:=e) (a:=a) h
theorem A8Y{l:List Stamp}{f:Fact}(h:∀s∈l,0<s.Time)(b:0<GG l f):K5 l f=true:=(B1R h f).1 b
theorem A8f{l:List Stamp}{f:Fact}(h:∀s∈l,0<s.Time)(b:¬0<GG l f):K5 l f=false:=by
 cases hb:K5 l f with
 |false=>rfl
 |true=>exact absurd ((B1R h f).2 hb) b
def stP(e:Engine):Bool:=HT e&&(!e.Halted&&(decide (e.Clock<=198)&&(decide (e.Fired.length<40)&&decide (e.Log.length<498))))
theorem B0d{e:Engine}(h1:HT e=true)(b:e.Halted=false)(c:e.Clock<=198)(d:e.Fired.length<40)(f:e.Log.length<498):stP e=true:=by simp[stP,h1,b,c,d,f]
theorem B0I{e:Engine}(h:HT e=false):stP e=false:=by simp[stP,h]
theorem B0J{e:Engine}(h:e.Halted=true):stP e=false:=by simp[stP,h]
theorem A8d{e:Engine}(h:¬e.Clock<=198\/¬e.Fired.length<40\/¬e.Log.length<498):stP e=false:=by
 rcases h with h|h|h<;>simp only[stP,decide_eq_false h,Bool.and_false,Bool.false_and]
theorem A9o{e:Engine}(h:stP e=true):HT e=true/\e.Halted=false/\e.Clock<=198/\e.Fired.length<40/\e.Log.length<498:=by
 simp only[stP,Bool.and_eq_true,decide_eq_true_eq,Bool.not_eq_true'] at h;exact h
theorem B1C{e:Engine}(h:HT e=true):EK e.Rules e.Memory e.Fired=HY e:=by simp[HY,h]
theorem B3r{e:Engine}(h:stP e=true)(hl:0<(EK e.Rules e.Memory e.Fired).length):stB e=true:=by
 have hp:=A9o h;rw[B1C hp.1] at hl;exact B0L hp.1 hp.2.1 hl hp.2.2.1 hp.2.2.2.1 hp.2.2.2.2
theorem A8z{e:Engine}(h:stP e=false):stB e=false:=by
 cases hb:stB e with
 |false=>rfl
 | true=>
  have hp:=A9C hb;rw[B0d hp.1 hp.2.1 hp.2.2.2.1 hp.2.2.2.2.1 hp.2.2.2.2.2] at h;cases h
theorem A9A{e:Engine}(h:stP e=true)(hl:(EK e.Rules e.Memory e.Fired).length=0):stB e=false:=by
 rw[B1C (A9o h).1] at hl;exact A8U (.inl (by omega))
theorem A9c{e:Engine}{c:Choice}{r:Rule}{k:Nat}(h:stP e=true)(hc:(EK e.Rules e.Memory e.Fired)[0]?=some c)(b:e.Rules[c.Order.toNat]?=some r)(hk:r.Then.length<=k):A7y c.Match r.Then (stS e c) k=stE e/\true=stB e:=by
 have hb:=B3r h (lS hc);rw[B1C (A9o h).1] at hc;exact B0z hb hc b hk
theorem B2c{e:Engine}{c:Choice}{k:Nat}(h:HT e=true)(hc:(EK e.Rules e.Memory e.Fired)[k]?=some c):(0<=c.Order/\c.Order<e.Rules.length)/\DJ c.Match<=386/\c.Match.Facts.length<=4/\c.Times.length<=4/\uD c.Match.Binding/\c.Match.Rule.size<=8:=by
 rw[B1C h] at hc;exact B0F hc
theorem acS{e:Engine}{c:Choice}(f:HT e=true)(o:e.Clock<=198)(r:e.Log.length<498){l:List Action}(hl:l.length<=2)(k:Nat):(A7y c.Match l (stS e c) k).Log.length<=600/\(A7y c.Match l (stS e c) k).Memory.length<=26/\(-1000<=(A7y c.Match l (stS e c) k).Clock/\(A7y c.Match l (stS e c) k).Clock<=1000)/\∀x∈(A7y c.Match l (stS e c) k).Memory,0<x.Time:=by
 have hp:=A8H f;have ha:=acK (m:=c.Match) (s:=stS e c) hl k;have h1:=ha.log;have g:=ha.mem;have h:=ha.clk0;have j:=ha.clk1;have t:(stS e c).Log.length=e.Log.length+1:=by simp[stS]
 have b:(stS e c).Memory=e.Memory:=rfl;have d:(stS e c).Clock=e.Clock:=rfl;rw[b] at g;rw[d] at h j;exact⟨by omega,by omega,⟨by omega,by omega⟩,ha.pos (by rw[b];exact B2Z hp.1) (by rw[d];omega)⟩
theorem B0e{e:Engine}{f:Fact}(h:A8Z e f=true):HT e=true/\BI f=true/\K5 e.Memory f=false/\e.Memory.length<24/\e.Clock<200/\e.Log.length<500:=by
 simp only[A8Z,Bool.and_eq_true,decide_eq_true_eq,Bool.not_eq_true'] at h;obtain⟨⟨⟨⟨⟨h1,b⟩,c⟩,d⟩,g⟩,j⟩:=h;exact⟨h1,b,c,d,g,j⟩
theorem B2d(e:Engine)(f:Fact)(k:Int)(r:ByteArray):DI (A8J e f k r)=DI e+2+2*F9 f+r.size:=by
 unfold DI A8J;simp only[A9W,B1T (A8u _ _ _),A9y,A9n,B1B];have b:CM ⟨f,e.Clock+1⟩=F9 f:=rfl;have c:L9 ⟨k,r,f⟩=r.size+F9 f:=rfl;rw[b,c];omega
theorem B2N(e:Engine)(f:Fact)(k:Int)(r:ByteArray):DI (A8G e f k r)<=DI e+1+F9 f+r.size:=by
 unfold DI A8G;simp only[A9n,B0V];have:=B1U e.Memory f;have b:L9 ⟨k,r,f⟩=r.size+F9 f:=rfl;omega
theorem B3F{e:Engine}{f:Fact}(h:DI e<=1048576):DI (A8D e f)<=1048576:=by
 unfold A8D
 split
 ·rename_i hp;have hq:=B0e hp;have h1:=B0H hq.1;have b:=aB hq.2.1;have c:(⟨#[]⟩:ByteArray).size=0:=rfl;rw[B2d];omega
 ·exact h
theorem B3G{e:Engine}{f:Fact}(h:DI e<=1048576):DI (A8E e f)<=1048576:=by
 unfold A8E
 split
 ·rename_i hp;simp only[A8g,Bool.and_eq_true,decide_eq_true_eq] at hp;have h1:=B0H hp.1.1;have b:=aB (B0l hp.1.1 hp.1.2);have c:(⟨#[]⟩:ByteArray).size=0:=rfl;have d:=B2N e f 2 ⟨#[]⟩;omega
 ·exact h
theorem B3H{e:Engine}{f:Fact}(h:QC e)(b:P9 f):QC (A8D e f):=by
 unfold A8D
 split
 ·rename_i hp;have hq:=B0e hp;have hc:=A8H hq.1;obtain⟨h1,c,j,d,o,g⟩:=h;refine⟨h1,?_,by simp only[A8J];unfold okI;omega,d,trivial,A9X g (A9Y ⟨B0M (n:=1) (by omega),(by decide:(0:Nat)<=9223372036854775807),b⟩)⟩;intro x hx;simp only[A8J,A9W] at hx
  rcases List.mem_cons.1 ((A8u _ _ _).mem_iff.1 hx) with rfl|hx
  ·exact⟨b,B0M (n:=e.Clock+1) (by omega)⟩
  ·exact c x hx
 ·exact h
theorem B3I{e:Engine}{f:Fact}(h:QC e)(b:P9 f):QC (A8E e f):=by
 unfold A8E
 split
 ·obtain⟨h1,c,d,g,o,j⟩:=h;exact⟨h1,λx hx=>c x (List.mem_filter.1 hx).1,d,g,trivial,A9X j (A9Y ⟨B0M (n:=2) (by omega),(by decide:(0:Nat)<=9223372036854775807),b⟩)⟩
 ·exact h
def A8C(e:Engine)(v:Event):Engine:=if v.Kind=1 then A8D e v.Fact else if v.Kind=2 then A8E e v.Fact else if v.Kind=3 then stE e else e
def A8V(e:Engine)(v:Event):Bool:=if v.Kind=1 then A8Z e v.Fact else if v.Kind=2 then A8g e v.Fact else if v.Kind=3 then stB e else false
def B0N(log:List Event)(n:Nat)(y:Engine):Bool:=decide (y.Log.length<=log.length)&&decide (y.Log.drop n=(log.drop n).take (y.Log.length-n))
def B0f(log:List Event)(e:Engine):Option Engine:=
 match log[e.Log.length]? with
 |none=>none
 |some v=>if (A8V e v&&B0N log e.Log.length (A8C e v))=true then some (A8C e v) else none
def A9G(log:List Event):Nat->Engine->Option Engine
 |0,_=>none
 |k+1,e=>if e.Log.length<log.length then(match B0f log e with|none=>none|some y=>A9G log k y) else some e
def zE:Engine:=⟨[],[],0,[],false,[]⟩
def A9H(rules:List Rule)(log:List Event):Option Engine:=if AR rules=true then A9G log (log.length+1) (A8M rules) else none
def A8N(rules:List Rule)(log:List Event):Engine:=(A9H rules log).getD zE
def A8e(rules:List Rule)(log:List Event):Bool:=(A9H rules log).isSome
theorem A9f{e:Engine}{v:Event}(h:DI e<=1048576):DI (A8C e v)<=1048576:=by
 unfold A8C
 split
 ·exact B3F h
 ·split
  ·exact B3G h
  ·split
   ·exact B3B h
   ·exact h
theorem B1D{e:Engine}{v:Event}(h:QC e)(b:wK v):QC (A8C e v):=by
 unfold A8C
 split
 ·exact B3H h b.2.2
 ·split
  ·exact B3I h b.2.2
  ·split
   ·exact B3E h
   ·exact h
theorem B1p{e:Engine}(h:stB e=true):e.Log.length<(stE e).Log.length/\(stE e).Log.take e.Log.length=e.Log:=by
 have hk:∀(l:List Action) (s:Engine),∃t,(l.foldl (A8X (c0 e).Match) s).Log=s.Log++t:=λl=>by
  induction l with
  |nil=>intro s;exact⟨[],by simp⟩
  | cons a l ih=>
   intro s;obtain⟨t,ht⟩:=ih (A8X (c0 e).Match s a);have:∃u,(A8X (c0 e).Match s a).Log=s.Log++u:=by
    unfold A8X
    repeat' split
    all_goals first|exact⟨_,rfl⟩|exact⟨[],by simp⟩
   obtain⟨u,hu⟩:=this;exact⟨u++t,by rw[List.foldl_cons,ht,hu,List.append_assoc]⟩
 obtain⟨t,ht⟩:=hk (stR e (c0 e)).Then (stS e (c0 e));unfold stE;rw[if_pos h,ht];simp[stS,List.append_assoc]
theorem A8c{e:Engine}{v:Event}(h:A8V e v=true):e.Log.length<(A8C e v).Log.length:=by
 unfold A8V at h;unfold A8C
 split
 ·rename_i h1;rw[if_pos h1] at h;rw[<-(A8r h).1];simp[A8J]
 ·rename_i h1;rw[if_neg h1] at h
  split
  ·rename_i b;rw[if_pos b] at h;rw[<-(A8s h).1];simp[A8G]
  ·rename_i b;rw[if_neg b] at h
   split
   ·rename_i c;rw[if_pos c] at h;exact(B1p h).1
   ·rename_i c;rw[if_neg c] at h;cases h
theorem A8K{rules:List Rule}{log:List Event}(h:AR rules=false):zE=A8N rules log/\false=A8e rules log:=by simp[A8N,A8e,A9H,h]
theorem B2r{rules:List Rule}(log:List Event)(h:AR rules=true):A9H rules log=A9G log (log.length+1) (A8M rules):=by simp[A9H,h]
theorem A8F{rules:List Rule}{log:List Event}{e:Engine}{k:Nat}(h:A9H rules log=A9G log k e)(hk:log.length<k+e.Log.length)(hl:¬e.Log.length<log.length)(b:0<k):e=A8N rules log/\true=A8e rules log:=by
 obtain⟨k,rfl⟩:∃j,k=j+1:=⟨k-1,by omega⟩;unfold A8N A8e;rw[h,A9G,if_neg hl];exact⟨rfl,rfl⟩
theorem B2O{rules:List Rule}{log:List Event}{e:Engine}{k:Nat}(h:A9H rules log=A9G log k e)(hl:e.Log.length<log.length)(b:B0f log e=none):zE=A8N rules log/\false=A8e rules log:=by
 unfold A8N A8e;rw[h]
 cases k with
 |zero=>exact⟨rfl,rfl⟩
 |succ k=>rw[A9G,if_pos hl,b];exact⟨rfl,rfl⟩
theorem B2s{rules:List Rule}{log:List Event}{e y:Engine}{k:Nat}(h:A9H rules log=A9G log (k+1) e)(hl:e.Log.length<log.length)(b:B0f log e=some y):A9H rules log=A9G log k y:=by rw[h,A9G,if_pos hl,b]
theorem B2e{log:List Event}{e:Engine}{v:Event}(b:log[e.Log.length]?=some v)(h:A8V e v=false):B0f log e=none:=by simp[B0f,b,h]
theorem B1q{log:List Event}{e:Engine}{v:Event}(b:log[e.Log.length]?=some v)(h:B0N log e.Log.length (A8C e v)=false):B0f log e=none:=by simp[B0f,b,h]
theorem B2P{log:List Event}{e:Engine}{v:Event}(b:log[e.Log.length]?=some v)(h1:A8V e v=true)(c:B0N log e.Log.length (A8C e v)=true):B0f log e=some (A8C e v):=by simp[B0f,b,h1,c]
theorem B1E{rules:List Rule}(h:DD BG rules<=1048576):DI (A8M rules)<=1048576:=by
 unfold A8M DI
 split<;>simp only[B1B]<;>omega
theorem A9Z{α:Type}{p:α->Prop}:LR p []:=λx hx=>by cases hx
theorem B2f{rules:List Rule}(h:LR H9 rules):QC (A8M rules):=by
 unfold A8M QC
 split
 ·exact⟨h,A9Z,by unfold okI;simp only;omega,A9Z,trivial,A9Z⟩
 ·exact⟨A9Z,A9Z,by unfold okI;simp only;omega,A9Z,trivial,A9Z⟩
theorem B3J(e:Engine)(v:Event):e.Log.length<=(A8C e v).Log.length:=by
 cases h:A8V e v with
 |true=>have:=A8c h;omega
 | false=>
  have:A8C e v=e:=by
   unfold A8V at h;unfold A8C
   split
   ·rename_i h1;rw[if_pos h1] at h;exact(A8v h).1.symm
   ·rename_i h1;rw[if_neg h1] at h
    split
    ·rename_i b;rw[if_pos b] at h;exact(A8w h).1.symm
    ·rename_i b;rw[if_neg b] at h
     split
     ·rename_i c;rw[if_pos c] at h;exact(A8j h).1.symm
     ·rfl
  rw[this];exact Nat.le_refl _
section
variable {e y:Engine} {v:Event} {log:List Event} {rules:List Rule} {k q n i:Nat}
theorem A7u(h:v.Kind=1):A8C e v=A8D e v.Fact/\A8V e v=A8Z e v.Fact:=by simp[A8C,A8V,h]
theorem A7v(h:v.Kind=2):A8C e v=A8E e v.Fact/\A8V e v=A8g e v.Fact:=by simp[A8C,A8V,h]
theorem A7w(h:v.Kind=3):A8C e v=stE e/\A8V e v=stB e:=by simp[A8C,A8V,h]
theorem A8T(h1:v.Kind≠1)(b:v.Kind≠2)(c:v.Kind≠3):A8C e v=e/\A8V e v=false:=by simp[A8C,A8V,h1,b,c]
theorem B1F(c:q=e.Log.length)(hb:A8V e v=true)(b:A8C e v=y):q+(y.Log.drop e.Log.length).length=(A8C e v).Log.length:=by
 have:=A8c hb;rw[<-b,List.length_drop];omega
theorem B1c(d:A9H rules log=A9G log k e)(f:q=e.Log.length)(c:log[q]?=some v)(hb:A8V e v=true)(g:A8C e v=y)(hl:(y.Log.drop e.Log.length).length<=log.length-q)(b:y.Log.drop e.Log.length=(log.drop q).take (q+(y.Log.drop e.Log.length).length-q))(hk:log.length<k+q):A9H rules log=A9G log (k-1) (A8C e v):=by
 rw[Nat.add_sub_cancel_left] at b;subst f;have hlt:=lS c;obtain⟨k,rfl⟩:∃j,k=j+1:=⟨k-1,by omega⟩;have hn:=A8c hb;refine B2s d hlt (B2P c hb ?_);rw[g] at hn⊢;unfold B0N;rw[List.length_drop] at hl b;simp only[Bool.and_eq_true,decide_eq_true_eq];exact⟨by omega,b⟩
theorem A8B(c:A9H rules log=A9G log k e)(d:q=e.Log.length)(b:log[q]?=some v)(hb:A8V e v=false):zE=A8N rules log/\false=A8e rules log:=by
 subst d;exact B2O c (lS b) (B2e b hb)
theorem A7x(d:A9H rules log=A9G log k e)(f:q=e.Log.length)(c:log[q]?=some v)(hb:A8V e v=true)(g:A8C e v=y)(b:log.length-q<(y.Log.drop e.Log.length).length\/y.Log.drop e.Log.length≠(log.drop q).take (q+(y.Log.drop e.Log.length).length-q)):zE=A8N rules log/\false=A8e rules log:=by
 rw[Nat.add_sub_cancel_left] at b;subst f;have hn:=A8c hb;refine B2O d (lS c) (B1q c ?_);rw[g] at hn⊢;unfold B0N;rw[List.length_drop] at b
 rcases b with h|h
 ·rw[decide_eq_false (by omega)];rfl
 ·rw[decide_eq_false h];simp
theorem A9g(h:A8e rules log=false):zE=A8N rules log/\false=A8e rules log:=by
 refine⟨?_,h.symm⟩;unfold A8e at h;unfold A8N
 cases ho:A9H rules log with
 |none=>rfl
 |some f=>rw[ho] at h;cases h
def sm2(log:List Event)(y:Engine)(n i:Nat):Bool:=decide (y.Log.length<=log.length)&&decide ((y.Log.take i).drop n=(log.take i).drop n)
theorem B4F(log:List Event)(y:Engine)(n:Nat):decide (y.Log.length<=log.length)=sm2 log y n n:=by
 have h:∀l:List Event,(l.take n).drop n=[]:=λl=>List.drop_eq_nil_of_le (by rw[List.length_take];omega)
 unfold sm2;rw[h,h];simp
theorem B4G{a b:Event}(d:n<=i)(c:y.Log[i]?=some a)(hb:log[i]?=some b)(h:sm2 log y n i=true):decide (a=b)=sm2 log y n (i+1):=by
 unfold sm2 at h⊢;simp only[Bool.and_eq_true,decide_eq_true_eq] at h;rw[decide_eq_true h.1,A1 c,A1 hb,List.drop_append_of_le_length (by rw[List.length_take];have:=lS c;omega),List.drop_append_of_le_length (by rw[List.length_take];have:=lS hb;omega),h.2];rw[Bool.eq_iff_iff];simp
theorem B2Q(c:y.Log.length<=i)(b:i<=y.Log.length):sm2 log y n i=B0N log n y:=by
 have e:i=y.Log.length:=by omega
 subst e;unfold sm2 B0N;rw[List.take_length,List.drop_take]
theorem B4H(b:i<=y.Log.length)(h:sm2 log y n i=false):B0N log n y=false:=by
 rw[<-B2Q (Nat.le_refl _) (Nat.le_refl _)];unfold sm2 at h⊢
 cases hb:(decide (y.Log.length<=log.length)&&decide ((y.Log.take y.Log.length).drop n=(log.take y.Log.length).drop n)) with
 |false=>rfl
 | true=>
  simp only[Bool.and_eq_true,decide_eq_true_eq] at hb;rw[decide_eq_true hb.1,Bool.true_and,decide_eq_false_iff_not] at h;refine absurd ?_ h;have h1:∀l:List Event,(l.take i).drop n=((l.take y.Log.length).drop n).take (i-n):=λl=>by
   rw[List.drop_take,List.drop_take,List.take_take]
   congr 1;omega
  rw[h1 y.Log,h1 log,hb.2]
theorem B3K(f:A9H rules log=A9G log k e)(c:log[e.Log.length]?=some v)(hk:log.length<k+e.Log.length)(g:y.Log.length<=i)(b:i<=y.Log.length)(d:A8C e v=y)(hb:(A8V e v&&sm2 log y e.Log.length i)=true):A9H rules log=A9G log (k-1) y/\log.length<(k-1)+y.Log.length:=by
 rw[B2Q g b] at hb;simp only[Bool.and_eq_true] at hb;have hlt:=lS c;obtain⟨k,rfl⟩:∃j,k=j+1:=⟨k-1,by omega⟩;have hn:=A8c hb.1;rw[d] at hn;refine⟨B2s f hlt ?_,by omega⟩;rw[<-d] at hb⊢;exact B2P c hb.1 hb.2
theorem B3L{f:Fact}(h:A8Z e f=true):e.Log.length<(A8D e f).Log.length:=by rw[<-(A8r h).1];simp[A8J]
theorem B3M{f:Fact}(h:A8g e f=true):e.Log.length<(A8E e f).Log.length:=by rw[<-(A8s h).1];simp[A8G]
theorem B3N(h:stB e=true):e.Log.length<(stE e).Log.length:=(B1p h).1
theorem B0W{b c:Bool}(h:b=(A8V e v&&c))(hb:b=true):A8V e v=true:=by
 rw[hb] at h;exact(Bool.and_eq_true_iff.1 h.symm).1
theorem B1d{b:Bool}(h:b=(A8V e v&&sm2 log y n i))(hb:b=true):y.Log.length<=log.length:=by
 rw[hb] at h;have:=(Bool.and_eq_true_iff.1 h.symm).2;unfold sm2 at this;simp only[Bool.and_eq_true,decide_eq_true_eq] at this;exact this.1
theorem B1r{b:Bool}{x z:Event}(h:b=(A8V e v&&sm2 log y n i))(hb:b=true)(c:n<=i)(d:y.Log[i]?=some x)(f:log[i]?=some z):decide (x=z)=(A8V e v&&sm2 log y n (i+1)):=by
 rw[hb] at h;have:=Bool.and_eq_true_iff.1 h.symm;rw[this.1,Bool.true_and];exact B4G c d f this.2
theorem B2R(hb:A8V e v=true):decide (y.Log.length<=log.length)=(A8V e v&&sm2 log y n n):=by rw[hb,Bool.true_and];exact B4F _ _ _
theorem B2t(hb:A8V e v=true):decide (((y.Log.length:Nat):Int)<=((log.length:Nat):Int))=(A8V e v&&sm2 log y n n):=by
 rw[<-B2R hb,Bool.eq_iff_iff];simp
theorem B2u(hb:A8V e v=false):false=(A8V e v&&sm2 log y n n):=by rw[hb];rfl
theorem B0X{b:Bool}(f:A9H rules log=A9G log k e/\log.length<k+e.Log.length/\e.Log.length<=log.length)(g:log[e.Log.length]?=some v)(j:y.Log.length<=i)(d:i<=y.Log.length)(o:A8C e v=y)(hb:b=(A8V e v&&sm2 log y e.Log.length i))(c:b=true):A9H rules log=A9G log (k-1) y/\log.length<(k-1)+y.Log.length/\y.Log.length<=log.length:=by
 have h:=B3K f.1 g f.2.1 j d o (hb.symm.trans c);exact⟨h.1,h.2,B1d hb c⟩
theorem B1G(d:A9H rules log=A9G log k e)(b:log[e.Log.length]?=some v)(c:i<=y.Log.length)(f:A8C e v=y)(hb:(A8V e v&&sm2 log y e.Log.length i)=false):A8e rules log=false:=by
 cases hx:A8V e v with
 |false=>exact(A8B d rfl b hx).2.symm
 | true=>
  rw[hx,Bool.true_and] at hb;have:=B4H c hb;rw[<-f] at this;exact(B2O d (lS b) (B1q b this)).2.symm
end
theorem B1s{log:List Event}:∀(k:Nat) {e f:Engine},A9G log k e=some f->DI e<=1048576->DI f<=1048576
 |0,_,_,h,_=>by cases h
 | k+1,e,f,h,he=>by
  rw[A9G] at h
  split at h
  ·cases hs:B0f log e with
   |none=>rw[hs] at h;cases h
   | some y=>
    rw[hs] at h;refine B1s k h ?_;unfold B0f at hs
    split at hs
    ·cases hs
    ·split at hs
     ·rw[<-Option.some.inj hs];exact A9f he
     ·cases hs
  ·rw[<-Option.some.inj h];exact he
theorem B2g{rules:List Rule}{log:List Event}(h:DD BG rules<=1048576):DI (A8N rules log)<=1048576:=by
 unfold A8N
 cases ho:A9H rules log with
 |none=>exact(by decide:DI zE<=1048576)
 | some f=>
  unfold A9H at ho
  split at ho
  ·exact B1s _ ho (B1E h)
  ·cases ho
end Go.Sy
