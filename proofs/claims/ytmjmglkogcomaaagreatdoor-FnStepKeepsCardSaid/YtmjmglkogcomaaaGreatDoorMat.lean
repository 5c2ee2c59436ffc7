/-
  Patterns met by facts: bindings, conditions, tokens, matches.
  Conditions: those that each theorem states.
-/
import Derived.Test.YtmjmglkogcomaaaGreatDoorCho
import Derived.Test.YtmjmglkogcomaaaGreatDoorChs
namespace Go.Sy
open Go
def GB(b:List C1J)(k:Nat):Bool:=match b[k]? with
 |none=>false
 |some x=>BM x.q4&&(BA x.q3&&(decide (k=0)||(match b[k-1]? with|none=>false|some p=>JE p.q4 x.q4)))
def D7(b:List C1J):Bool:=decide (b.length<=6)&&(List.range b.length).all (GB b)
theorem dW{b:List C1J}{k:Nat}{x:C1J}(h:b[k]?=some x)(h1:BM x.q4=true)(c:BA x.q3=true)(hk:k=0):GB b k=true:=by subst hk;simp[GB,h,h1,c]
theorem dX{b:List C1J}{k j:Nat}{x p:C1J}(h:b[k]?=some x)(hp:b[j]?=some p)(c:j=k-1)(h1:BM x.q4=true)(d:BA x.q3=true)(hc:JE p.q4 x.q4=true):GB b k=true:=by subst c;simp[GB,h,h1,d,hp,hc]
theorem X2{b:List C1J}{k:Nat}{x:C1J}(h:b[k]?=some x)(h1:BM x.q4=false):GB b k=false:=by simp[GB,h,h1]
theorem X3{b:List C1J}{k:Nat}{x:C1J}(h:b[k]?=some x)(h1:BA x.q3=false):GB b k=false:=by simp[GB,h,h1]
theorem X4{b:List C1J}{k j:Nat}{x p:C1J}(h:b[k]?=some x)(hp:b[j]?=some p)(c:j=k-1/\0<k)(hc:JE p.q4 x.q4=false):GB b k=false:=by
 obtain⟨rfl,d⟩:=c;have:k≠0:=by omega
 simp[GB,h,hp,hc,this]
theorem A2b{b:List C1J}(h:¬b.length<=6):false=D7 b:=by unfold D7;rw[decide_eq_false h];rfl
theorem RU{b:List C1J}{k:Nat}(hk:k<b.length)(h:GB b k=false):false=D7 b:=by
 unfold D7;have:(List.range b.length).all (GB b)=false:=by rw[List.all_eq_false];exact⟨k,by simpa using hk,by rw[h];simp⟩
 rw[this];simp
theorem kQ{b:List C1J}(c:∀i,i<b.length->GB b i=true):decide (b.length<=6)=D7 b:=by
 unfold D7;have:(List.range b.length).all (GB b)=true:=by rw[List.all_eq_true];intro i h;exact c i (by simpa using h)
 rw[this];simp
theorem A5r{b:List C1J}(h:b.length<=6)(c:∀i,i<b.length->GB b i=true):true=D7 b:=by rw[<-kQ c,decide_eq_true h]
theorem A5s{b:List C1J}(c:∀i,i<b.length->GB b i=true):decide ((b.length:Int)<=6)=D7 b:=by rw[<-kQ c,Bool.eq_iff_iff];simp;omega
theorem Z6{b:List C1J}(h:D7 b=true):b.length<=6:=by unfold D7 at h;simp only[Bool.and_eq_true,decide_eq_true_eq] at h;exact h.1
theorem B9f{b:List C1J}(h:D7 b=true){x:C1J}(d:x∈b):BM x.q4=true/\BA x.q3=true:=by
 obtain⟨k,c,rfl⟩:=List.getElem_of_mem d;unfold D7 at h;simp only[Bool.and_eq_true,List.all_eq_true,List.mem_range] at h;have:=h.2 k c;unfold GB at this;rw[List.getElem?_eq_getElem c] at this;simp only[Bool.and_eq_true] at this;exact⟨this.1,this.2.1⟩
def nF(b:List C1J)(t:ByteArray):Option ByteArray:=if BA t=true then some t else if BM t=true then(b.find? (λx=>decide (x.q4=t))).map (·.q3) else none
def EJ(b:List C1J)(t:ByteArray):ByteArray:=(nF b t).getD ⟨#[]⟩
def HU(b:List C1J)(t:ByteArray):Bool:=(nF b t).isSome
theorem kR{b:List C1J}{t:ByteArray}(h:BA t=true):t=EJ b t/\true=HU b t:=by simp[EJ,HU,nF,h]
theorem yO{α:Type}{p:α->Bool}{l:List α}{k:Nat}{x:α}(b:l[k]?=some x)(hp:p x=true)(d:∀i,i<k->∀y,l[i]?=some y->p y=false):l.find? p=some x:=by
 have c:=lS b;rw[List.find?_eq_some_iff_getElem];refine⟨hp,k,c,by rw[List.getElem?_eq_getElem c] at b;exact Option.some.inj b,λj f=>?_⟩;rw[d j f _ (List.getElem?_eq_getElem (by omega))];rfl
theorem yP{α:Type}{p:α->Bool}{l:List α}(c:∀i,i<l.length->∀y,l[i]?=some y->p y=false):l.find? p=none:=by
 rw[List.find?_eq_none];intro x hx;obtain⟨k,b,rfl⟩:=List.getElem_of_mem hx;rw[c k b _ (List.getElem?_eq_getElem b)];simp
theorem A5t{b:List C1J}{t:ByteArray}{k:Nat}{x:C1J}(c:BA t=false)(d:BM t=true)(f:b[k]?=some x)(g:x.q4=t)(j:∀i,i<k->∀y,b[i]?=some y->y.q4≠t):x.q3=EJ b t/\true=HU b t:=by
 have:b.find? (λx=>decide (x.q4=t))=some x:=yO f (by simp[g]) (λi h y o=>by simp[j i h y o]);simp[EJ,HU,nF,c,d,this]
theorem A5u{b:List C1J}{t:ByteArray}(c:BA t=false)(d:BM t=false\/∀i,i<b.length->∀y,b[i]?=some y->y.q4≠t):⟨#[]⟩=EJ b t/\false=HU b t:=by
 by_cases hv:BM t=true
 ·have f:=d.resolve_left (by rw[hv];simp);have:b.find? (λx=>decide (x.q4=t))=none:=yP (λi h y g=>by simp[f i h y g]);simp[EJ,HU,nF,c,this]
 ·simp[EJ,HU,nF,c,hv]
theorem kS{b:List C1J}{t:ByteArray}{k:Nat}{x:C1J}(d:BA t=false)(c:BM t=true)(f:b[k]?=some x)(g:x.q4=t)(j:∀i,i<k->∀y,b[i]?=some y->¬(y.q4=t/\BM t=true)):x.q3=EJ b t/\true=HU b t:=A5t d c f g (λi h y o e=>j i h y o ⟨e,c⟩)
theorem X5{b:List C1J}{t:ByteArray}(c:BA t=false)(d:BM t=false\/∀i,i<b.length->∀y,b[i]?=some y->¬(y.q4=t/\BM t=true)):⟨#[]⟩=EJ b t/\false=HU b t:=A5u c (by
 by_cases hv:BM t=true
 ·exact .inr λi h y f e=>(d.resolve_left (by rw[hv];simp)) i h y f ⟨e,hv⟩
 ·exact .inl (by simpa using hv))
def PQ{α:Type}(p:α->Bool)(s:α)(q:List α × Bool)(x:α):List α × Bool:=(if (!q.2&&p x)=true then q.1++ [s]++ [x] else q.1++ [x],q.2||p x)
def DK{α:Type}(p:α->Bool)(s:α)(l:List α)(k:Nat):List α × Bool:=(l.take k).foldl (PQ p s) ([],false)
section
variable {α:Type} {p:α->Bool} {s x:α} {l:List α} {k:Nat}
theorem RX(h:l[k]?=some x):DK p s l (k+1)=PQ p s (DK p s l k) x:=by
 unfold DK;rw[A1 h,List.foldl_append];rfl
theorem tP(p:α->Bool)(s:α)(l:List α):[]=(DK p s l 0).1:=by simp[DK]
theorem dY(h:l[k]?=some x)(hd:(DK p s l k).2=false)(hc:p x=true):(DK p s l k).1++ [s]++ [x]=(DK p s l (k+1)).1:=by rw[RX h];simp[PQ,hd,hc]
theorem kT(h:l[k]?=some x)(hc:p x=false):(DK p s l k).1++ [x]=(DK p s l (k+1)).1:=by rw[RX h];simp[PQ,hc]
theorem kU(h:l[k]?=some x)(hd:(DK p s l k).2=true):(DK p s l k).1++ [x]=(DK p s l (k+1)).1:=by rw[RX h];simp[PQ,hd]
theorem kV(h:l[k]?=some x)(hc:p x=true):true=(DK p s l (k+1)).2:=by rw[RX h];simp[PQ,hc]
theorem dZ{b:Bool}(h:l[k]?=some x)(hd:b=(DK p s l k).2)(hb:b=true):b=(DK p s l (k+1)).2:=by rw[hb,RX h];simp[PQ,hd.symm.trans hb]
theorem eA{b:Bool}(h:l[k]?=some x)(hd:b=(DK p s l k).2)(hb:b=false)(hc:p x=false):b=(DK p s l (k+1)).2:=by rw[hb,RX h];simp[PQ,hd.symm.trans hb,hc]
theorem eC(p:α->Bool)(s:α):∀(l:List α) (q:List α × Bool),(l.foldl (PQ p s) q).1.length<=q.1.length+2*l.length
 | [],q=>by simp
 | x::l,q=>by
  have b:=eC p s l (PQ p s q x);have h1:(PQ p s q x).1.length<=q.1.length+2:=by
   unfold PQ;simp only
   split<;>simp
  simp only[List.foldl_cons,List.length_cons];omega
theorem U1(p:α->Bool)(s:α)(l:List α)(k:Nat):(DK p s l k).1.length<=2*k:=by
 have:=eC p s (l.take k) ([],false);have b:(l.take k).length<=k:=by rw[List.length_take];omega
 unfold DK;simp only[List.length_nil] at this;omega
def Z7(p:α->Bool)(s:α)(l:List α):List α:=if (DK p s l l.length).2=true then(DK p s l l.length).1 else(DK p s l l.length).1++ [s]
theorem tQ(h1:k<=l.length)(b:l.length<=k)(hd:(DK p s l k).2=true):(DK p s l k).1=Z7 p s l:=by
 have e:k=l.length:=by omega
 subst e;simp[Z7,hd]
theorem tT(h1:k<=l.length)(b:l.length<=k)(hd:(DK p s l k).2=false):(DK p s l k).1++ [s]=Z7 p s l:=by
 have e:k=l.length:=by omega
 subst e;simp[Z7,hd]
theorem eD(p:α->Bool)(s:α)(l:List α):(Z7 p s l).length<=2*l.length+1:=by
 have:=U1 p s l l.length;unfold Z7;split<;>simp<;>omega
end
abbrev NW(v:ByteArray)(y:C1J):Bool:= !(JE y.q4 v||decide (y.q4=v))
def Z8(b:List C1J)(v x:ByteArray):List C1J:=Z7 (NW v) ⟨v,x⟩ b
def MW(b:List C1J)(v x:ByteArray):Option (List C1J):=
 if (D7 b&&BM v&&BA x)=true then(if HU b v=true then(if EJ b v=x then some b else none) else if b.length=6 then none else some (Z8 b v x)) else none
def Fq(b:List C1J)(v x:ByteArray):List C1J:=(MW b v x).getD []
def GY(b:List C1J)(v x:ByteArray):Bool:=(MW b v x).isSome
theorem JN{b:List C1J}{v x:ByteArray}(h:D7 b=false\/BM v=false\/BA x=false):[]=Fq b v x/\false=GY b v x:=by
 have:MW b v x=none:=by unfold MW;rcases h with h|h|h<;>simp[h]
 simp[Fq,GY,this]
theorem kW{b:List C1J}{v x:ByteArray}(h1:D7 b=true)(c:BM v=true)(d:BA x=true)(f:HU b v=true)(g:EJ b v=x):b=Fq b v x/\true=GY b v x:=by
 have:MW b v x=some b:=by unfold MW;simp[h1,c,d,f,g]
 simp[Fq,GY,this]
theorem kX{b:List C1J}{v x:ByteArray}(c:HU b v=true)(d:EJ b v≠x):[]=Fq b v x/\false=GY b v x:=by
 have:MW b v x=none:=by unfold MW;simp[c,d]
 simp[Fq,GY,this]
theorem kY{b:List C1J}{v x:ByteArray}(c:HU b v=false)(d:6<=b.length):[]=Fq b v x/\false=GY b v x:=by
 have:MW b v x=none:=by
  unfold MW
  split
  ·rename_i h;simp only[Bool.and_eq_true] at h;have:=Z6 h.1.1;have e:b.length=6:=by omega
   simp[c,e]
  ·rfl
 simp[Fq,GY,this]
theorem X6{b:List C1J}{v x:ByteArray}(h1:D7 b=true)(c:BM v=true)(d:BA x=true)(f:HU b v=false)(g:b.length≠6):Z8 b v x=Fq b v x/\true=GY b v x:=by
 have:MW b v x=some (Z8 b v x):=by unfold MW;simp[h1,c,d,f,g]
 simp[Fq,GY,this]
theorem eE{b:List C1J}{v x:ByteArray}:(Fq b v x).length<=13:=by
 unfold Fq MW
 split
 ·rename_i h;simp only[Bool.and_eq_true] at h;have:=Z6 h.1.1
  split
  ·split<;>simp<;>omega
  ·split
   ·simp
   ·simp only[Option.getD_some];have:=eD (NW v) ⟨v,x⟩ b;unfold Z8;omega
 ·simp
theorem eF{α:Type}{p:α->Bool}{s y:α}:∀(l:List α) (q:List α × Bool),y∈(l.foldl (PQ p s) q).1->y∈q.1\/y=s\/y∈l
 | [],q,h=> .inl h
 | x::l,q,h=>by
  have b:=eF l (PQ p s q x) h
  rcases b with h1|h1|h1
  ·unfold PQ at h1;simp only at h1
   split at h1
   ·simp only[List.mem_append,List.mem_singleton] at h1
    rcases h1 with (h1|h1)|h1
    ·exact .inl h1
    ·exact .inr (.inl h1)
    ·exact .inr (.inr (by simp[h1]))
   ·simp only[List.mem_append,List.mem_singleton] at h1
    rcases h1 with h1|h1
    ·exact .inl h1
    ·exact .inr (.inr (by simp[h1]))
  ·exact .inr (.inl h1)
  ·exact .inr (.inr (by simp[h1]))
theorem eG{α:Type}{p:α->Bool}{s y:α}{l:List α}(h:y∈Z7 p s l):y=s\/y∈l:=by
 have key:y∈(DK p s l l.length).1->y=s\/y∈l:=λh=>by
  unfold DK at h
  rcases eF _ _ h with h1|h1|h1
  ·simp at h1
  ·exact .inl h1
  ·exact .inr (List.mem_of_mem_take h1)
 unfold Z7 at h
 split at h
 ·exact key h
 ·simp only[List.mem_append,List.mem_singleton] at h
  rcases h with h|h
  ·exact key h
  ·exact .inl h
theorem yQ{b:List C1J}{v x:ByteArray}(h:LR KF b)(d:VP v)(f:VP x):LR KF (Fq b v x):=λp c=>by
 unfold Fq MW at c
 split at c
 ·split at c
  ·split at c
   ·exact h p c
   ·simp at c
  ·split at c
   ·simp at c
   ·simp only[Option.getD_some] at c
    rcases eG c with h1|h1
    ·subst h1;exact⟨d,f⟩
    ·exact h p h1
 ·simp at c
def WI(o:Option (List C1J))(q:ByteArray × ByteArray):Option (List C1J):=o.bind λb=>if BA q.1=true then(if q.1=q.2 then some b else none) else MW b q.1 q.2
def LX(p:C1H)(f:C1G)(b:List C1J)(k:Nat):Option (List C1J):=((p.a.zip f.a).take k).foldl WI (some b)
def U2(p:C1H)(f:C1G)(b:List C1J):Bool:=CK p&&BI f&&D7 b&&decide (p.p5=f.p5)&&decide (p.a.length=f.a.length)
def U3(p:C1H)(f:C1G)(b:List C1J):Option (List C1J):=if U2 p f b=true then LX p f b p.a.length else none
def GH(p:C1H)(f:C1G)(b:List C1J):List C1J:=(U3 p f b).getD []
def DC(p:C1H)(f:C1G)(b:List C1J):Bool:=(U3 p f b).isSome
theorem A2c{α β:Type}{l:List α}{m:List β}{k:Nat}{x:α}{y:β}(b:l[k]?=some x)(c:m[k]?=some y):(l.zip m)[k]?=some (x,y):=by
 rw[List.getElem?_zip_eq_some];exact⟨b,c⟩
theorem Z9{p:C1H}{f:C1G}{b:List C1J}{k:Nat}{x y:ByteArray}(c:p.a[k]?=some x)(d:f.a[k]?=some y):LX p f b (k+1)=WI (LX p f b k) (x,y):=by
 unfold LX;rw[A1 (A2c c d),List.foldl_append];rfl
theorem X7:∀(l:List (ByteArray × ByteArray)),l.foldl WI none=none
 | []=>rfl
 |_::l=>X7 l
theorem nG{p:C1H}{f:C1G}{b:List C1J}{k n:Nat}(h:LX p f b k=none)(hk:k<=n):LX p f b n=none:=by
 unfold LX at*;have:(p.a.zip f.a).take n=(p.a.zip f.a).take k++((p.a.zip f.a).take n).drop k:=by
  have h1:=List.take_append_drop k ((p.a.zip f.a).take n);rw[List.take_take,Nat.min_eq_left hk] at h1;exact h1.symm
 rw[this,List.foldl_append,h,X7]
theorem HW{p:C1H}{f:C1G}{b:List C1J}(h:U2 p f b=false):[]=GH p f b/\false=DC p f b:=by simp[GH,DC,U3,h]
theorem FT{p:C1H}{f:C1G}{b:List C1J}(h:CK p=false\/BI f=false\/D7 b=false\/p.p5≠f.p5\/p.a.length≠f.a.length):U2 p f b=false:=by
 unfold U2;rcases h with h|h|h|h|h<;>simp[h]
theorem tV{p:C1H}{f:C1G}{b:List C1J}(h1:CK p=true)(c:BI f=true)(d:D7 b=true)(g:p.p5=f.p5)(h:p.a.length=f.a.length):U2 p f b=true:=by simp[U2,h1,c,d,g,h]
theorem eH{p:C1H}{f:C1G}{b:List C1J}(h:U2 p f b=true):p.a.length=f.a.length:=by
 unfold U2 at h;simp only[Bool.and_eq_true,decide_eq_true_eq] at h;exact h.2
theorem SN{p:C1H}{f:C1G}{b:List C1J}{k:Nat}(hk:k<p.a.length)(h:LX p f b (k+1)=none):[]=GH p f b/\false=DC p f b:=by
 have c:=nG h (n:=p.a.length) (by omega);have:U3 p f b=none:=by unfold U3;split<;>simp[c]
 simp[GH,DC,this]
theorem kZ{p:C1H}{f:C1G}{b c:List C1J}{k:Nat}(d:U2 p f b=true)(hk:k<=p.a.length/\p.a.length<=k)(h:LX p f b k=some c):c=GH p f b/\true=DC p f b:=by
 have e:k=p.a.length:=by omega
 subst e;have:U3 p f b=some c:=by unfold U3;simp[d,h]
 simp[GH,DC,this]
theorem tX{p:C1H}{f:C1G}{b c:List C1J}{k:Nat}{x y:ByteArray}(h:LX p f b k=some c)(g:p.a[k]?=some x)(j:f.a[k]?=some y)(o:BA x=true)(d:x=y):LX p f b (k+1)=some c:=by
 rw[Z9 g j,h];simp[WI,d,d▸o]
theorem TC{p:C1H}{f:C1G}{b c:List C1J}{k:Nat}{x y:ByteArray}(h:LX p f b k=some c)(d:p.a[k]?=some x)(g:f.a[k]?=some y)(j:BA x=true)(o:x≠y):LX p f b (k+1)=none:=by
 rw[Z9 d g,h];simp[WI,j,o]
theorem tY{p:C1H}{f:C1G}{b c:List C1J}{k:Nat}{x y:ByteArray}(h:LX p f b k=some c)(j:p.a[k]?=some x)(o:f.a[k]?=some y)(r:BA x=false)(g:GY c x y=true):LX p f b (k+1)=some (Fq c x y):=by
 rw[Z9 j o,h];unfold GY at g;obtain⟨d,t⟩:=Option.isSome_iff_exists.1 g;simp[WI,r,Fq,t]
theorem TD{p:C1H}{f:C1G}{b c:List C1J}{k:Nat}{x y:ByteArray}(h:LX p f b k=some c)(g:p.a[k]?=some x)(j:f.a[k]?=some y)(o:BA x=false)(d:GY c x y=false):LX p f b (k+1)=none:=by
 rw[Z9 g j,h];unfold GY at d;have:MW c x y=none:=by simpa using d
 simp[WI,o,this]
def E3(x:C1L)(b:List C1J):Bool:=IA x&&D7 b&&(HU b x.t&&HU b x.p6)&&
 (if x.s=3 then decide (EJ b x.t=EJ b x.p6) else if x.s=4 then decide (EJ b x.t≠EJ b x.p6) else pO (EJ b x.t)&&pO (EJ b x.p6)&&decide (pI (EJ b x.t)<pI (EJ b x.p6)))
def nT(p:C1H)(b:List C1J)(facts:List C1G):List C1G:=facts.filter (λf=>DC p f b)
def holdB(x:C1L)(b:List C1J)(facts:List C1G):Bool:=BD x&&D7 b&&(if x.s=1 then decide (0<(nT x.p2 b facts).length) else if x.s=2 then decide ((nT x.p2 b facts).length=0) else E3 x b)
def HV(x:C1L)(t:C3t)(f:C1G):Option C3t:=(U3 x.p2 f t.f).map λb=>⟨t.k++ [f],b⟩
def EC(x:C1L)(facts:List C1G)(t:C3t):List C3t:=if x.s≠1 then(if holdB x t.f facts=true then [t] else []) else facts.filterMap (HV x t)
def LY(x:C1L)(facts:List C1G)(l:List C3t):List C3t:=l.flatMap (EC x facts)
def JO(conds:List C1L)(facts:List C1G):List C3t:=conds.foldl (λl x=>LY x facts l) [⟨[],[]⟩]
def KL(facts:List C1G)(r:C1M):List Match:=(JO r.q facts).map λt=>⟨r.y,t.k,t.f⟩
def GE(rules:List C1M)(facts:List C1G):List Match:=rules.flatMap (KL facts)
def FH(rules:List C1M)(l:List C1N)(fired:List C1O)(m:Match):Option C3z:=if MG fired m.p7 (BJ l m.k)=true then none else some (NP rules l m)
def EK(rules:List C1M)(l:List C1N)(fired:List C1O):List C3z:=if (AR rules&&C5 l)=true then BY ((GE rules (l.map C1N.j)).filterMap (FH rules l fired)) else []
theorem B8v{x:C1L}{facts:List C1G}{t u:C3t}(j:∀f∈t.k,f∈facts)(h:u∈EC x facts t):∀f∈u.k,f∈facts:=by
 unfold EC at h
 split at h
 ·split at h
  ·simp only[List.mem_singleton] at h;subst h;exact j
  ·cases h
 ·rw[List.mem_filterMap] at h;obtain⟨g,o,d⟩:=h;unfold HV at d;rw[Option.map_eq_some_iff] at d;obtain⟨b,_,rfl⟩:=d;intro f c
  rcases List.mem_append.1 c with c|c
  ·exact j f c
  ·simp only[List.mem_singleton] at c;subst c;exact o
end Go.Sy
namespace Go.Sy
open Go
section
variable {α β:Type}
theorem LZ{g:α->List β}{l:List α}{k:Nat}{x:α}(h:l[k]?=some x):(l.take k).flatMap g++g x=(l.take (k+1)).flatMap g:=by
 rw[A1 h,List.flatMap_append];simp
theorem OF(g:α->List β)(l:List α):[]=(l.take 0).flatMap g:=by simp
theorem NX{g:α->List β}{l:List α}{k:Nat}(h:l.length<=k):(l.take k).flatMap g=l.flatMap g:=by rw[List.take_of_length_le h]
theorem gV{g:α->Option β}{l:List α}{k:Nat}{x:α}{y:β}(h:l[k]?=some x)(b:g x=some y):(l.take k).filterMap g++ [y]=(l.take (k+1)).filterMap g:=by
 rw[A1 h,List.filterMap_append];simp[b]
theorem aA{g:α->Option β}{l:List α}{k:Nat}{x:α}(h:l[k]?=some x)(b:g x=none):(l.take k).filterMap g=(l.take (k+1)).filterMap g:=by
 rw[A1 h,List.filterMap_append];simp[b]
theorem uA(g:α->Option β)(l:List α):[]=(l.take 0).filterMap g:=by simp
theorem U4(g:α->Option β)(l:List α)(k:Nat):((l.take k).filterMap g).length<=k:=by
 have:=List.length_filterMap_le g (l.take k);rw[List.length_take] at this;omega
theorem uB{p:α->Bool}{l:List α}{k:Nat}{x:α}(h:l[k]?=some x)(hp:p x=true):(l.take k).filter p++ [x]=(l.take (k+1)).filter p:=by
 rw[A1 h,List.filter_append];simp[hp]
theorem uC{p:α->Bool}{l:List α}{k:Nat}{x:α}(h:l[k]?=some x)(hp:p x=false):(l.take k).filter p=(l.take (k+1)).filter p:=by
 rw[A1 h,List.filter_append];simp[hp]
theorem eI(p:α->Bool)(l:List α)(k:Nat):((l.take k).filter p).length<=k:=by
 have:=List.length_filter_le p (l.take k);rw[List.length_take] at this;omega
theorem MI{g:α->List β}{n:Nat}(h:∀x,(g x).length<=n):∀l:List α,(l.flatMap g).length<=n*l.length
 | []=>by simp
 | x::l=>by
  have h1:=h x;have b:=MI h l;rw[List.flatMap_cons,List.length_append,List.length_cons,Nat.mul_add];omega
end
theorem HX{l:List C1G}(h:AW l=true){f:C1G}(c:f∈l):BI f=true:=by
 obtain⟨k,b,rfl⟩:=List.getElem_of_mem c;unfold AW at h;simp only[Bool.and_eq_true,List.all_eq_true,List.mem_range] at h;have:=h.2 k b;unfold GA at this;rw[List.getElem?_eq_getElem b] at this;simp only[Bool.and_eq_true] at this;exact this.1
theorem OG{l:List C1G}(h:AW l=true):l.length<=24:=by
 unfold AW at h;simp only[Bool.and_eq_true,decide_eq_true_eq] at h;exact h.1
theorem aB{f:C1G}(h:BI f=true):F9 f<=35:=by
 unfold BI at h;simp only[Bool.and_eq_true,decide_eq_true_eq,List.all_eq_true] at h;have h1:f.p5.size<=8:=by
  have:=h.1.1;unfold FK at this;simp only[Bool.and_eq_true] at this;exact(IV this.1).2
 have c:∀(l:List ByteArray),(∀x∈l,BA x=true)->(l.map (·.size)).sum<=8*l.length:=λl=>by
  induction l with
  |nil=>simp
  | cons x l ih=>
   intro hx;have a:=(IV (hx x (by simp))).2;have b:=ih (λy d=>hx y (by simp[d]));simp only[List.map_cons,List.sum_cons,List.length_cons];omega
 have g:=c f.a h.2;have j:=h.1.2;unfold F9 M9;omega
theorem lA{f:C1G}(h:BI f=true):P9 f:=by
 unfold BI at h;simp only[Bool.and_eq_true,decide_eq_true_eq,List.all_eq_true] at h;refine⟨?_,λx b=>?_⟩
 ·have:=h.1.1;unfold FK at this;simp only[Bool.and_eq_true] at this;have:=IV this.1;unfold VP;omega
 ·have:=IV (h.2 x b);unfold VP;omega
theorem RY{l:List C1G}(h:∀f∈l,BI f=true):DD F9 l<=36*l.length:=by
 have:AI F9 l<=35*l.length:=by
  induction l with
  |nil=>simp[AI]
  | cons x l ih=>
   have a:=aB (h x (by simp));have b:=ih (λy c=>h y (by simp[c]));simp only[AI,List.map_cons,List.sum_cons,List.length_cons] at*;omega
 unfold DD;omega
theorem NY{l:List C1G}(h:AW l=true):DD F9 l<=1048576/\LR P9 l/\l.length<=24:=by
 have h1:=RY (l:=l) (λf b=>HX h b);have c:=OG h;exact⟨by omega,λf b=>lA (HX h b),c⟩
def uD(b:List C1J):Prop:=b.length<=13/\∀p∈b,p.q4.size<=9/\p.q3.size<=8
theorem A2d{b:List C1J}(h:uD b):LR KF b:=λp c=>by
 have:=h.2 p c;exact⟨by unfold VP;omega,by unfold VP;omega⟩
theorem uF{b:List C1J}(h:uD b):DD KE b<=234:=by
 have:AI KE b<=17*b.length:=by
  have f:=h.2;clear h
  induction b with
  |nil=>simp[AI]
  | cons x l ih=>
   have a:=f x (by simp);have c:=ih (λy g=>f y (by simp[g]));have d:KE x=x.q4.size+x.q3.size:=rfl;simp only[AI,List.map_cons,List.sum_cons,List.length_cons] at*;omega
 have:=h.1;unfold DD;omega
theorem yR:uD []:=⟨by simp,by simp⟩
theorem A2e{s:ByteArray}(h:BM s=true):s.size<=9:=by
 unfold BM at h;simp only[Bool.and_eq_true,decide_eq_true_eq] at h;have:=(IV h.2.2).2;rw[ByteArray.size_extract] at this;omega
theorem yS{b c:List C1J}{v x:ByteArray}(h:uD b)(d:MW b v x=some c):uD c:=by
 unfold MW at d
 split at d
 ·rename_i hc;simp only[Bool.and_eq_true] at hc
  split at d
  ·split at d
   ·simp only[Option.some.injEq] at d;rw[<-d];exact h
   ·cases d
  ·split at d
   ·cases d
   ·simp only[Option.some.injEq] at d;subst d;refine⟨?_,λp f=>?_⟩
    ·have h1:=eD (NW v) ⟨v,x⟩ b;have g:=Z6 hc.1.1;unfold Z8;omega
    ·rcases eG f with h1|h1
     ·subst h1;exact⟨A2e hc.1.2,(IV hc.2).2⟩
     ·exact h.2 p h1
 ·cases d
theorem lB:∀(l:List (ByteArray × ByteArray)) {o:Option (List C1J)},(∀b,o=some b->uD b)->∀c,l.foldl WI o=some c->uD c
 | [],_,h,c,hc=>h c hc
 | q::l,o,h,c,hc=>by
  refine lB l (o:=WI o q) (λb d=>?_) c hc;unfold WI at d;rw[Option.bind_eq_some_iff] at d;obtain⟨a,f,d⟩:=d
  split at d
  ·split at d
   ·simp only[Option.some.injEq] at d;rw[<-d];exact h a f
   ·cases d
  ·exact yS (h a f) d
theorem yT{p:C1H}{f:C1G}{b c:List C1J}(h:uD b)(d:U3 p f b=some c):uD c:=by
 unfold U3 at d
 split at d
 ·unfold LX at d;exact lB _ (λa g=>by simp only[Option.some.injEq] at g;rw[<-g];exact h) c d
 ·cases d
theorem A2f{x:C1L}{t:C3t}{f:C1G}(h:DC x.p2 f t.f=true):HV x t f=some ⟨t.k++ [f],GH x.p2 f t.f⟩:=by
 unfold DC at h;obtain⟨b,c⟩:=Option.isSome_iff_exists.1 h;simp[HV,GH,c]
theorem A2g{x:C1L}{t:C3t}{f:C1G}(h:DC x.p2 f t.f=false):HV x t f=none:=by
 unfold DC at h;have:U3 x.p2 f t.f=none:=by simpa using h
 simp[HV,this]
theorem uG{A:List C3t}{x:C1L}{t:C3t}{facts:List C1G}{q:Nat}{f:C1G}(h:facts[q]?=some f)(b:DC x.p2 f t.f=true):(A++(facts.take q).filterMap (HV x t))++ [⟨t.k++ [f],GH x.p2 f t.f⟩]=A++(facts.take (q+1)).filterMap (HV x t):=by
 rw[<-gV h (A2f b),List.append_assoc]
theorem uH{A:List C3t}{x:C1L}{t:C3t}{facts:List C1G}{q:Nat}{f:C1G}(h:facts[q]?=some f)(b:DC x.p2 f t.f=false):A++(facts.take q).filterMap (HV x t)=A++(facts.take (q+1)).filterMap (HV x t):=by
 rw[<-aA h (A2g b)]
theorem uI(A:List C3t)(x:C1L)(t:C3t)(facts:List C1G):A=A++(facts.take 0).filterMap (HV x t):=by simp
theorem uJ{x:C1L}{facts:List C1G}{l:List C3t}{i:Nat}{t:C3t}(h:l[i]?=some t)(hk:x.s≠1)(b:holdB x t.f facts=true):(l.take i).flatMap (EC x facts)++ [t]=(l.take (i+1)).flatMap (EC x facts):=by
 rw[<-LZ h];simp[EC,hk,b]
theorem uK{x:C1L}{facts:List C1G}{l:List C3t}{i:Nat}{t:C3t}(h:l[i]?=some t)(hk:x.s≠1)(b:holdB x t.f facts=false):(l.take i).flatMap (EC x facts)=(l.take (i+1)).flatMap (EC x facts):=by
 rw[<-LZ h];simp[EC,hk,b]
theorem uL{x:C1L}{facts:List C1G}{l:List C3t}{i q:Nat}{t:C3t}(h:l[i]?=some t)(hk:x.s=1)(b:facts.length<=q):(l.take i).flatMap (EC x facts)++(facts.take q).filterMap (HV x t)=(l.take (i+1)).flatMap (EC x facts):=by
 rw[<-LZ h,List.take_of_length_le b];simp[EC,hk]
theorem eJ{x:C1L}{facts:List C1G}(b:facts.length<=24)(t:C3t):(EC x facts t).length<=24:=by
 unfold EC
 split
 ·split<;>simp
 ·have:=List.length_filterMap_le (HV x t) facts;omega
theorem U5{x:C1L}{facts:List C1G}(b:facts.length<=24)(l:List C3t)(i:Nat):((l.take i).flatMap (EC x facts)).length<=24*i:=by
 have h1:=MI (eJ (x:=x) b) (l.take i);have c:(l.take i).length<=i:=by rw[List.length_take];omega
 have d:24*(l.take i).length<=24*i:=Nat.mul_le_mul_left _ c;omega
theorem eK{x:C1L}{facts:List C1G}(b:facts.length<=24)(l:List C3t)(i q:Nat)(t:C3t):((l.take i).flatMap (EC x facts)++(facts.take q).filterMap (HV x t)).length<=24*i+q:=by
 have h1:=U5 (x:=x) b l i;have c:=U4 (HV x t) facts q;rw[List.length_append];omega
def EN(conds:List C1L)(facts:List C1G)(k:Nat):List C3t:=(conds.take k).foldl (λl x=>LY x facts l) [⟨[],[]⟩]
theorem uM(conds:List C1L)(facts:List C1G):[⟨[],[]⟩]=EN conds facts 0:=rfl
theorem uN{conds:List C1L}{facts:List C1G}{k:Nat}{x:C1L}(h:conds[k]?=some x):LY x facts (EN conds facts k)=EN conds facts (k+1):=by
 unfold EN;rw[A1 h,List.foldl_append];rfl
theorem A2h{conds:List C1L}{facts:List C1G}{k i:Nat}{x:C1L}(h:conds[k]?=some x)(b:(EN conds facts k).length<=i):((EN conds facts k).take i).flatMap (EC x facts)=EN conds facts (k+1):=by
 rw[<-uN h,NX b];rfl
theorem NZ{conds:List C1L}{facts:List C1G}{k:Nat}(h:conds.length<=k):EN conds facts k=JO conds facts:=by unfold EN JO;rw[List.take_of_length_le h]
theorem nH{x:C1L}{facts:List C1G}(b:facts.length<=24)(l:List C3t):(LY x facts l).length<=24*l.length:=MI (eJ (x:=x) b) l
theorem X8{facts:List C1G}(b:facts.length<=24):∀(cs:List C1L) (l:List C3t),(cs.foldl (λl x=>LY x facts l) l).length<=24^cs.length*l.length
 | [],l=>by simp
 | x::cs,l=>by
  have h1:=X8 b cs (LY x facts l);have c:=nH (x:=x) b l;simp only[List.foldl_cons,List.length_cons];refine Nat.le_trans h1 ?_;rw[Nat.pow_succ,Nat.mul_assoc];exact Nat.mul_le_mul_left _ c
theorem QU{conds:List C1L}{facts:List C1G}(b:facts.length<=24)(hc:conds.length<=4)(k:Nat):(EN conds facts k).length<=331776:=by
 have h:=X8 b (conds.take k) [⟨[],[]⟩];have c:(conds.take k).length<=4:=by rw[List.length_take];omega
 have d:24^(conds.take k).length<=24^4:=Nat.pow_le_pow_right (by omega) c;simp only[List.length_singleton,Nat.mul_one] at h;have f:(24:Nat)^4=331776:=rfl;unfold EN;omega
def yU(facts:List C1G)(n:Nat)(t:C3t):Prop:=(∀f∈t.k,f∈facts)/\t.k.length<=n/\uD t.f
theorem gW{facts:List C1G}{n m:Nat}{t:C3t}(h:yU facts n t)(b:n<=m):yU facts m t:=⟨h.1,Nat.le_trans h.2.1 b,h.2.2⟩
theorem yV{x:C1L}{facts:List C1G}{n:Nat}{t u:C3t}(d:yU facts n t)(h:u∈EC x facts t):yU facts (n+1) u:=by
 unfold EC at h
 split at h
 ·split at h
  ·simp only[List.mem_singleton] at h;subst h;exact gW d (by omega)
  ·cases h
 ·rw[List.mem_filterMap] at h;obtain⟨g,o,j⟩:=h;unfold HV at j;rw[Option.map_eq_some_iff] at j;obtain⟨b,r,rfl⟩:=j;refine⟨λf c=>?_,by have:=d.2.1;simp;omega,yT d.2.2 r⟩
  rcases List.mem_append.1 c with c|c
  ·exact d.1 f c
  ·simp only[List.mem_singleton] at c;subst c;exact o
theorem eL{facts:List C1G}:∀(cs:List C1L) (n:Nat) (l:List C3t),(∀t∈l,yU facts n t)->∀u∈cs.foldl (λl x=>LY x facts l) l,yU facts (n+cs.length) u
 | [],_,_,h,u,hu=>h u hu
 | x::cs,n,l,h,u,hu=>by
  have:=eL cs (n+1) (LY x facts l) (λt b=>by
   unfold LY at b;rw[List.mem_flatMap] at b;obtain⟨v,c,b⟩:=b;exact yV (h v c) b) u hu
  rw[List.length_cons];exact gW this (by omega)
theorem TE{conds:List C1L}{facts:List C1G}(hc:conds.length<=4){k:Nat}{t:C3t}(b:t∈EN conds facts k):yU facts 4 t:=by
 have h:=eL (conds.take k) 0 [⟨[],[]⟩] (λt b=>by
  simp only[List.mem_singleton] at b;subst b;exact⟨by simp,by simp,yR⟩) t b
 have c:(conds.take k).length<=4:=by rw[List.length_take];omega
 exact gW h (by omega)
theorem gX{facts:List C1G}{t:C3t}(b:AW facts=true)(h:yU facts 4 t):DD F9 t.k<=144/\t.f.length<=13/\LR KF t.f/\DD KE t.f<=234:=by
 have h1:=RY (l:=t.k) (λf c=>HX b (h.1 f c));have d:=h.2.1;exact⟨by omega,h.2.2.1,A2d h.2.2,uF h.2.2⟩
theorem uO{r:C1M}{l:List C3t}{k:Nat}{t:C3t}(h:l[k]?=some t):(l.take k).map (λt=>(⟨r.y,t.k,t.f⟩:Match))++ [⟨r.y,t.k,t.f⟩]=(l.take (k+1)).map (λt=>(⟨r.y,t.k,t.f⟩:Match)):=by
 rw[A1 h,List.map_append];rfl
def G6(r:C1M)(n:Int)(facts:List C1G):List C3t:=if (CR r&&AW facts&&GO n 0 (r.q.length:Int))=true then JO (r.q.take n.toNat) facts else []
def JD(facts:List C1G)(r:C1M):List Match:=if (CR r&&AW facts)=true then KL facts r else []
def DX(rules:List C1M)(facts:List C1G):List Match:=if (AR rules&&AW facts)=true then GE rules facts else []
theorem OH{r:C1M}(h:CR r=true):r.q.length<=4/\r.q0.length<=2/\r.y.size<=8:=by
 unfold CR GO at h;simp only[Bool.and_eq_true,decide_eq_true_eq] at h;have h0:=h.1;unfold FK at h0;simp only[Bool.and_eq_true] at h0;have:=IV h0.1;exact⟨by omega,by omega,by omega⟩
theorem X9{l:List C1M}(h:AR l=true){k:Nat}{r:C1M}(b:l[k]?=some r):CR r=true/\BN l r.y=(k:Int):=by
 unfold AR at h;simp only[Bool.and_eq_true,List.all_eq_true,List.mem_range] at h;have:=h.2 k (lS b);unfold JR at this;rw[b] at this;simp only[Bool.and_eq_true,decide_eq_true_eq] at this;exact this
theorem YA{l:List C1M}(h:AR l=true):l.length<=6:=by
 unfold AR at h;simp only[Bool.and_eq_true,decide_eq_true_eq] at h;exact h.1
theorem DY{a b:ByteArray}(h1:pO a=true)(c:pO b=true):GX a b<0↔pI a<pI b:=by
 unfold GX DN;rw[if_pos ⟨h1,c⟩]
 split
 ·simp_all
 ·split<;>simp_all
theorem A2i{n m:Int}(h:GO n 0 m=true):0<=n/\n<=m:=by
 unfold GO at h;simp only[Bool.and_eq_true,decide_eq_true_eq] at h;exact h
theorem A2j{r:C1M}{n:Int}{facts:List C1G}(h1:CR r=true)(b:AW facts=true)(c:GO n 0 (r.q.length:Int)=true):JO (r.q.take n.toNat) facts=G6 r n facts:=by simp[G6,h1,b,c]
theorem yW{r:C1M}{n:Int}{facts:List C1G}(h:CR r=false):[]=G6 r n facts:=by simp[G6,h]
theorem yX{r:C1M}{n:Int}{facts:List C1G}(h:AW facts=false):[]=G6 r n facts:=by simp[G6,h]
theorem yY{r:C1M}{n:Int}{facts:List C1G}(h:GO n 0 (r.q.length:Int)=false):[]=G6 r n facts:=by simp[G6,h]
theorem eM{r:C1M}{facts:List C1G}:G6 r (r.q.length:Int) facts=if (CR r&&AW facts)=true then JO r.q facts else []:=by
 have:GO (r.q.length:Int) 0 (r.q.length:Int)=true:=by unfold GO;simp
 unfold G6;rw[this,Bool.and_true,show((r.q.length:Int)).toNat=r.q.length from rfl,List.take_length]
theorem uQ(r:C1M)(facts:List C1G):(G6 r (r.q.length:Int) facts).length<=331776:=by
 rw[eM]
 split
 ·rename_i h;simp only[Bool.and_eq_true] at h;have:=QU (conds:=r.q) (OG h.2) (OH h.1).1 r.q.length;rw[NZ (Nat.le_refl _)] at this;exact this
 ·simp
theorem nI{r:C1M}{facts:List C1G}{k:Nat}(h:(G6 r (r.q.length:Int) facts).length<=k):((G6 r (r.q.length:Int) facts).take k).map (λt=>(⟨r.y,t.k,t.f⟩:Match))=JD facts r:=by
 rw[List.take_of_length_le h,eM];unfold JD KL
 split<;>rfl
end Go.Sy
namespace Go.Sy
open Go
def A8q(p:C1H)(b:List C1J):Bool:=CK p&&(D7 b&&p.a.all (HU b))
def A8L(p:C1H)(b:List C1J):C1G:=if A8q p b=true then⟨p.p5,p.a.map (EJ b)⟩ else⟨⟨#[]⟩,[]⟩
theorem A7z{p:C1H}{b:List C1J}(h:A8q p b=false):(⟨⟨#[]⟩,[]⟩:C1G)=A8L p b/\false=A8q p b:=by simp[A8L,h]
theorem A8P{p:C1H}{b:List C1J}(h:CK p=false):A8q p b=false:=by simp[A8q,h]
theorem A8Q{p:C1H}{b:List C1J}(h:D7 b=false):A8q p b=false:=by simp[A8q,h]
theorem A8R{p:C1H}{b:List C1J}{k:Nat}{x:ByteArray}(c:p.a[k]?=some x)(h:HU b x=false):A8q p b=false:=by
 have:p.a.all (HU b)=false:=by rw[List.all_eq_false];exact⟨x,List.mem_of_getElem? c,by rw[h];simp⟩
 simp[A8q,this]
theorem A8W{p:C1H}{b:List C1J}{k:Nat}(h1:CK p=true)(c:D7 b=true)(hk:p.a.length<=k)(d:∀i,i<k->∀y,p.a[i]?=some y->HU b y=true):(⟨p.p5,(p.a.take k).map (EJ b)⟩:C1G)=A8L p b/\true=A8q p b:=by
 have f:p.a.all (HU b)=true:=IN (λi h x j=>d i (by omega) x j);have g:A8q p b=true:=by simp[A8q,h1,c,f]
 simp only[A8L,g,if_true,List.take_of_length_le hk,and_true]
theorem B2q{α β:Type}{f:α->β}{l:List α}{k:Nat}{x:α}(h:l[k]?=some x):(l.take k).map f++ [f x]=(l.take (k+1)).map f:=by
 rw[A1 h,List.map_append];rfl
theorem uU{α β:Type}(f:α->β)(l:List α)(k:Nat):((l.take k).map f).length<=k:=by rw[List.length_map,List.length_take];omega
theorem U6{r:C1M}{facts:List C1G}(b:CR r=true)(c:AW facts=true):(KL facts r).length<=331776:=by
 unfold KL;rw[List.length_map];have:=QU (conds:=r.q) (OG c) (OH b).1 r.q.length;rw[NZ (Nat.le_refl _)] at this;exact this
theorem uV{r:C1M}{facts:List C1G}(b:CR r=true)(c:AW facts=true):(JO r.q facts).length<=331776:=by
 have:=U6 b c;unfold KL at this
 rwa [List.length_map] at this
theorem eN(facts:List C1G)(r:C1M):(JD facts r).length<=331776:=by
 unfold JD
 split
 ·rename_i h;simp only[Bool.and_eq_true] at h;exact U6 h.1 h.2
 ·simp
theorem YB(facts:List C1G)(rules:List C1M)(k:Nat):((rules.take k).flatMap (JD facts)).length<=331776*k:=by
 have h1:=MI (eN facts) (rules.take k);have b:(rules.take k).length<=k:=by rw[List.length_take];omega
 have c:331776*(rules.take k).length<=331776*k:=Nat.mul_le_mul_left _ b;omega
theorem A2k{facts:List C1G}{r:C1M}(h1:CR r=true)(b:AW facts=true):JD facts r=KL facts r:=by simp[JD,h1,b]
theorem YC{rules:List C1M}(h:AR rules=true){r:C1M}(b:r∈rules):CR r=true:=by
 obtain⟨k,c⟩:=List.getElem?_of_mem b;exact(X9 h c).1
theorem U7{α β:Type}{g b:α->List β}:∀{l:List α},(∀x∈l,g x=b x)->l.flatMap g=l.flatMap b
 | [],_=>rfl
 |x::l,h=>by rw[List.flatMap_cons,List.flatMap_cons,h x (by simp),U7 (l:=l) (λy c=>h y (by simp[c]))]
theorem uW{rules:List C1M}{facts:List C1G}(h:AR rules=true)(b:AW facts=true)(k:Nat):(rules.take k).flatMap (KL facts)=(rules.take k).flatMap (JD facts):=
 U7 (λ_ c=>(A2k (YC h (List.mem_of_mem_take c)) b).symm)
theorem YD{rules:List C1M}{facts:List C1G}(h:AR rules=true)(b:AW facts=true)(k:Nat):((rules.take k).flatMap (KL facts)).length<=331776*k:=by
 rw[uW h b];exact YB facts rules k
theorem U8{rules:List C1M}{facts:List C1G}(h:AR rules=true)(b:AW facts=true):(GE rules facts).length<=1990656:=by
 have h1:=YD h b rules.length;rw[List.take_length] at h1;have c:=YA h;have d:331776*rules.length<=331776*6:=Nat.mul_le_mul_left _ c;unfold GE;omega
theorem nJ(rules:List C1M)(facts:List C1G):(DX rules facts).length<=1990656:=by
 unfold DX
 split
 ·rename_i h;simp only[Bool.and_eq_true] at h;exact U8 h.1 h.2
 ·simp
theorem A5v{rules:List C1M}{facts:List C1G}{k:Nat}(h:AR rules=true)(hk:rules.length<=k):(rules.take k).flatMap (JD facts)=DX rules facts:=by
 rw[List.take_of_length_le hk]
 cases hf:AW facts with
 | true=>
  have:=uW h hf rules.length;rw[List.take_length] at this;simp[DX,h,hf,GE,this]
 | false=>
  have:∀l:List C1M,l.flatMap (JD facts)=[]:=λl=>by
   induction l with
   |nil=>rfl
   |cons r l ih=>rw[List.flatMap_cons,ih];simp[JD,hf]
  rw[this];simp[DX,hf]
theorem A5w{rules:List C1M}{facts:List C1G}{k:Nat}(h:AR rules=false)(hk:k=0):(rules.take k).flatMap (JD facts)=DX rules facts:=by subst hk;simp[DX,h]
theorem A5x{rules:List C1M}{facts:List C1G}{k:Nat}(h:k=0\/AR rules=true)(hk:rules.length<=k):(rules.take k).flatMap (JD facts)=DX rules facts:=by
 rcases h with h|h
 ·have:rules=[]:=List.eq_nil_of_length_eq_zero (by omega);subst this;simp[DX,GE]
 ·exact A5v h hk
theorem L0{l:List C1N}(h:C5 l=true):AW (l.map C1N.j)=true:=by
 unfold C5 at h;simp only[Bool.and_eq_true] at h;exact h.2
def smM(facts:List C1G)(m:Match):Prop:=(∀f∈m.k,f∈facts)/\m.k.length<=4/\uD m.f/\m.p7.size<=8
theorem yZ{facts:List C1G}{r:C1M}(b:CR r=true){m:Match}(h:m∈KL facts r):smM facts m/\m.p7=r.y:=by
 unfold KL at h;rw[List.mem_map] at h;obtain⟨t,c,rfl⟩:=h;rw[<-NZ (k:=r.q.length) (Nat.le_refl _)] at c;have h1:=TE (OH b).1 c;exact⟨⟨h1.1,h1.2.1,h1.2.2,(OH b).2.2⟩,rfl⟩
theorem aC{rules:List C1M}{facts:List C1G}(h:AR rules=true){m:Match}(b:m∈GE rules facts):smM facts m/\∃r∈rules,m.p7=r.y:=by
 unfold GE at b;rw[List.mem_flatMap] at b;obtain⟨r,c,b⟩:=b;have:=yZ (YC h c) b;exact⟨this.1,r,c,this.2⟩
theorem uX{facts:List C1G}{m:Match}(b:AW facts=true)(h:smM facts m):DJ m<=386/\m.k.length<=4:=by
 have h1:=RY (l:=m.k) (λf d=>HX b (h.1 f d));have g:=uF h.2.2.1;have c:=h.2.1;have j:=h.2.2.2;exact⟨by unfold DJ;omega,c⟩
theorem nK{l:List C1N}{f:C1G}(h:f∈l.map C1N.j):K5 l f=true:=by
 rw[List.mem_map] at h;obtain⟨s,b,rfl⟩:=h;unfold K5 mQ;rw[List.find?_isSome];exact⟨s,b,by simp⟩
theorem uY{rules:List C1M}{name:ByteArray}(h:∃r∈rules,name=r.y):0<=BN rules name:=by
 obtain⟨r,b,rfl⟩:=h;unfold BN
 split
 ·rename_i e;rw[List.findIdx?_eq_none_iff] at e;have:=e r b;simp at this
 ·omega
theorem lC{rules:List C1M}{l:List C1N}(h:AR rules=true){m:Match}(b:m∈GE rules (l.map C1N.j)):KG rules l m=true:=by
 have h1:=aC h b;unfold KG;rw[decide_eq_true (uY h1.2)];simp only[Bool.true_and,List.all_eq_true];exact λf c=>nK (h1.1.1 f c)
def DU(rules:List C1M)(l:List C1N)(fired:List C1O)(m:Match):Option C3z:=if (G9 rules l m&& !(MG fired (CW rules l m).v.p7 (CW rules l m).q2))=true then some (CW rules l m) else none
theorem A5y{rules:List C1M}{l:List C1N}{fired:List C1O}{m:Match}(h1:G9 rules l m=true)(b:MG fired (CW rules l m).v.p7 (CW rules l m).q2=false):DU rules l fired m=some (CW rules l m):=by simp[DU,h1,b]
theorem uZ{rules:List C1M}{l:List C1N}{fired:List C1O}{m:Match}(h:G9 rules l m=false\/MG fired (CW rules l m).v.p7 (CW rules l m).q2=true):DU rules l fired m=none:=by
 rcases h with h|h<;>simp[DU,h]
theorem A2l{rules:List C1M}{l:List C1N}(h:AR rules=true)(hl:C5 l=true){m:Match}(c:m∈GE rules (l.map C1N.j)):G9 rules l m=true/\CW rules l m=NP rules l m:=by
 have:=lC h c;have b:G9 rules l m=true:=by simp[G9,h,hl,this]
 exact⟨b,by simp[CW,b]⟩
theorem QV{α β:Type}{g b:α->Option β}:∀{l:List α},(∀x∈l,g x=b x)->l.filterMap g=l.filterMap b
 | [],_=>rfl
 |x::l,h=>by rw[List.filterMap_cons,List.filterMap_cons,h x (by simp),QV (l:=l) (λy c=>h y (by simp[c]))]
theorem vA{rules:List C1M}{l:List C1N}{fired:List C1O}(h:AR rules=true)(hl:C5 l=true){m:Match}(b:m∈GE rules (l.map C1N.j)):DU rules l fired m=FH rules l fired m:=by
 have h1:=A2l h hl b;unfold DU FH;rw[h1.1,h1.2];have e:(NP rules l m).v.p7=m.p7/\(NP rules l m).q2=BJ l m.k:=⟨rfl,rfl⟩;rw[e.1,e.2]
 cases MG fired m.p7 (BJ l m.k)<;>simp
theorem zA{rules:List C1M}{l:List C1N}{fired:List C1O}{k:Nat}(hk:(DX rules (l.map C1N.j)).length<=k):BY (((DX rules (l.map C1N.j)).take k).filterMap (DU rules l fired))=EK rules l fired:=by
 rw[List.take_of_length_le hk];unfold EK
 split
 ·rename_i h;simp only[Bool.and_eq_true] at h;have:DX rules (l.map C1N.j)=GE rules (l.map C1N.j):=by simp[DX,h.1,L0 h.2]
  rw[this,QV (λm b=>vA (fired:=fired) h.1 h.2 b)]
 ·rename_i h;have:∀M:List Match,M.filterMap (DU rules l fired)=[]:=λM=>by
   rw[List.filterMap_eq_nil_iff];intro m _;refine uZ (.inl ?_);have:(AR rules&&C5 l)=false:=by simpa using h
   simp[G9,this]
  rw[this];rfl
theorem A5z{rules:List C1M}{l:List C1N}{fired:List C1O}(h:AR rules=false\/C5 l=false):[]=EK rules l fired:=by
 rcases h with h|h<;>simp[EK,h]
theorem A7j{rules:List C1M}{l:List C1N}{fired:List C1O}{k:Nat}(h:AR rules=true)(hl:C5 l=true)(hk:(GE rules (l.map C1N.j)).length<=k):BY (((GE rules (l.map C1N.j)).take k).filterMap (FH rules l fired))=EK rules l fired:=by
 rw[List.take_of_length_le hk];simp[EK,h,hl]
theorem eO{rules:List C1M}{l:List C1N}(h:AR rules=true){k:Nat}{m:Match}(b:(GE rules (l.map C1N.j))[k]?=some m):FU rules l m=NP rules l m:=by
 have:=lC h (List.mem_of_getElem? b);simp[FU,this]
theorem A6A{rules:List C1M}{l:List C1N}{fired:List C1O}(h:AR rules=true){k:Nat}{m:Match}(c:(GE rules (l.map C1N.j))[k]?=some m)(b:MG fired (FU rules l m).v.p7 (FU rules l m).q2=false):FH rules l fired m=some (FU rules l m):=by
 rw[eO h c] at b⊢;have:MG fired m.p7 (BJ l m.k)=false:=b;simp[FH,this]
theorem A6B{rules:List C1M}{l:List C1N}{fired:List C1O}(h:AR rules=true){k:Nat}{m:Match}(c:(GE rules (l.map C1N.j))[k]?=some m)(b:MG fired (FU rules l m).v.p7 (FU rules l m).q2=true):FH rules l fired m=none:=by
 rw[eO h c] at b;have:MG fired m.p7 (BJ l m.k)=true:=b;simp[FH,this]
theorem aD{rules:List C1M}{l:List C1N}(h:AR rules=true)(hl:C5 l=true){k:Nat}{m:Match}(b:(GE rules (l.map C1N.j))[k]?=some m):DJ m<=386/\m.k.length<=4:=
 uX (L0 hl) (aC h (List.mem_of_getElem? b)).1
theorem eP{rules:List C1M}{facts:List C1G}{k:Nat}{m:Match}(b:(DX rules facts)[k]?=some m):DJ m<=386/\m.k.length<=4:=by
 unfold DX at b
 split at b
 ·rename_i h;simp only[Bool.and_eq_true] at h;exact uX h.2 (aC h.1 (List.mem_of_getElem? b)).1
 ·simp at b
theorem aF{rules:List C1M}{l:List C1N}{m:Match}(h:DJ m<=386/\m.k.length<=4):DJ (NP rules l m).v<=386/\(NP rules l m).q2.length<=4:=⟨h.1,by simp only[NP,BJ,List.length_map];exact h.2⟩
theorem vB{rules:List C1M}{l:List C1N}{fired:List C1O}(h:AR rules=true)(hl:C5 l=true){k:Nat}:∀x∈((GE rules (l.map C1N.j)).take k).filterMap (FH rules l fired),DJ x.v<=1048576/\x.q2.length<=12:=λx c=>by
 rw[List.mem_filterMap] at c;obtain⟨m,f,b⟩:=c;obtain⟨j,d⟩:=List.getElem?_of_mem (List.mem_of_mem_take f);have h1:=aF (rules:=rules) (l:=l) (aD h hl d);unfold FH at b
 split at b
 ·cases b
 ·simp only[Option.some.injEq] at b;subst b;omega
theorem nL{rules:List C1M}{l:List C1N}{facts:List C1G}{fired:List C1O}{k:Nat}:∀x∈((DX rules facts).take k).filterMap (DU rules l fired),DJ x.v<=1048576/\x.q2.length<=12:=λx c=>by
 rw[List.mem_filterMap] at c;obtain⟨m,f,b⟩:=c;obtain⟨j,d⟩:=List.getElem?_of_mem (List.mem_of_mem_take f);have h1:=aF (rules:=rules) (l:=l) (eP d);unfold DU at b
 split at b
 ·rename_i hc;simp only[Bool.and_eq_true] at hc;simp only[Option.some.injEq] at b;subst b;have:CW rules l m=NP rules l m:=by simp[CW,hc.1]
  rw[this];omega
 ·cases b
theorem gY{rules:List C1M}{l:List C1N}{fired:List C1O}{x:C3z}(b:x∈EK rules l fired):AR rules=true/\C5 l=true/\∃m∈GE rules (l.map C1N.j),x=NP rules l m/\MG fired m.p7 (BJ l m.k)=false:=by
 unfold EK at b
 split at b
 ·rename_i h;simp only[Bool.and_eq_true] at h;rw[tO,List.mem_filterMap] at b;obtain⟨m,d,c⟩:=b;unfold FH at c
  split at c
  ·cases c
  ·rename_i hf;simp only[Option.some.injEq] at c;exact⟨h.1,h.2,m,d,c.symm,by simpa using hf⟩
 ·cases b
theorem lD{α:Type}{c:α->Nat}{n:Nat}:∀{l:List α},(∀x∈l,c x<=n)->AI c l<=n*l.length
 | [],_=>by simp[AI]
 | x::l,h=>by
  have h1:=h x (by simp);have d:=lD (l:=l) (λy b=>h y (by simp[b]));simp only[AI,List.map_cons,List.sum_cons,List.length_cons,Nat.mul_add] at*;omega
def HY(e:C1P):List C3z:=if HT e=true then EK e.p8 e.w e.m else []
theorem vC{e:C1P}(h:HT e=true):EK e.p8 e.w e.m=HY e:=by simp[HY,h]
theorem vD{e:C1P}(h:HT e=false):[]=HY e:=by simp[HY,h]
end Go.Sy
namespace Go.Sy
open Go
theorem B8F{s:ByteArray}(h:pO s=true):ES (pI s)=s:=by
 unfold pO pQ at h;unfold pI pQ
 split at h
 ·rename_i n e;unfold pNb at e;have:=List.find?_some e;simpa using this
 ·cases h
theorem B9g{a b:ByteArray}(h:GX a b=0):a=b:=by
 unfold GX at h
 split at h
 ·rename_i hp;have h1:=B8F hp.1;have c:=B8F hp.2;have e:pI a=pI b:=by
   unfold DN at h
   split at h
   ·omega
   ·split at h<;>omega
  rw[<-h1,<-c,e]
 ·split at h
  ·omega
  ·split at h
   ·omega
   ·exact gC h
theorem cmpL_eq:∀{l m:List ByteArray},cmpL l m=0->l=m
 | [],[],_=>rfl
 | [],_::_,h=>by simp[cmpL] at h
 |_::_,[],h=>by simp[cmpL] at h
 | a::l,b::m,h=>by
  simp only[cmpL] at h
  split at h
  ·rename_i h0;rw[B9g h0,cmpL_eq h]
  ·contradiction
theorem B9h{f g:C1G}(h:HS f g=0):f=g:=by
 unfold HS at h
 split at h
 ·rename_i e;obtain⟨r,a⟩:=f;obtain⟨b,a2⟩:=g;have:=cmpL_eq h;simp only at e this;rw[e,this]
 ·rename_i e;exact absurd (gC h) e
theorem zB{f g h:C1G}(h1:HS f g<0)(b:HS g h<0):HS f h<0:=by
 have a:=J1.le f g h;have d:=J1.anti f g;have j:=J1.anti g h;have o:=J1.anti f h;have c:=J1.le h f g;omega
theorem nN{α:Type}{R:α->α->Prop}(u:∀a b c,R a b->R b c->R a c){l:List α}(h:∀k p f,l[k]?=some p->l[k+1]?=some f->R p f):l.Pairwise R:=by
 have key:∀(d i:Nat) f g,l[i]?=some f->l[i+1+d]?=some g->R f g:=λd=>by
  induction d with
  |zero=>exact λi f g r o=>h i f g r o
  | succ d ih=>
   intro i f g r o;have:=lS o;obtain⟨m,t⟩:=sL (l:=l) (i:=i+1+d) (by omega);exact u _ _ _ (ih i f m r t) (h (i+1+d) m g t o)
 rw[List.pairwise_iff_getElem];intro i j hi hj hij;refine key (j-i-1) i _ _ (List.getElem?_eq_getElem hi) ?_;rw[show i+1+(j-i-1)=j from by omega];exact List.getElem?_eq_getElem hj
theorem YE{α:Type}{R:α->α->Prop}{l:List α}(h:l.Pairwise R){i j:Nat}{p f:α}(b:l[i]?=some p)(c:l[j]?=some f)(d:i<j):R p f:=by
 rw[List.pairwise_iff_getElem] at h;have h1:=lS b;have g:=lS c;have:=h i j h1 g d;rw[List.getElem?_eq_getElem h1,Option.some.injEq] at b;rw[List.getElem?_eq_getElem g,Option.some.injEq] at c;rw[b,c] at this;exact this
theorem YF{l:List C1G}:AW l=true↔l.length<=24/\(∀f∈l,BI f=true)/\l.Pairwise (λf g=>HS f g<0):=by
 constructor
 ·intro h;refine⟨OG h,λf b=>HX h b,nN (R:=λf g=>HS f g<0) (λ_ _ _ h1 c=>zB h1 c) (λk p f d b=>?_)⟩;unfold AW at h;simp only[Bool.and_eq_true,List.all_eq_true,List.mem_range] at h;have:=h.2 (k+1) (lS b);unfold GA at this;rw[b] at this;simp only[Nat.add_sub_cancel,d] at this;simpa using (Bool.and_eq_true_iff.1 this).2
 ·rintro⟨h1,c,j⟩;unfold AW;simp only[Bool.and_eq_true,decide_eq_true_eq,List.all_eq_true,List.mem_range];refine⟨h1,λk o=>?_⟩;obtain⟨f,b⟩:=sL o
  by_cases h0:k=0
  ·exact UJ b (c f (List.mem_of_getElem? b)) h0
  ·obtain⟨p,d⟩:=sL (l:=l) (i:=k-1) (by omega);exact UK b d rfl (c f (List.mem_of_getElem? b)) (YE j d b (by omega))
theorem mem_iff{l:List C1N}:C5 l=true↔(∀s∈l,1<=s.q1/\s.q1<=200)/\l.Pairwise (λa b=>a.q1≠b.q1)/\l.length<=24/\(∀s∈l,BI s.j=true)/\l.Pairwise (λa b=>HS a.j b.j<0):=by
 constructor
 ·intro h;have d:=YF.1 (L0 h);rw[List.length_map,List.pairwise_map] at d;refine⟨λs c=>XM h c,?_,d.1,λs c=>d.2.1 _ (List.mem_map_of_mem c),d.2.2⟩;unfold C5 at h;simp only[Bool.and_eq_true,List.all_eq_true,List.mem_range] at h;rw[List.pairwise_iff_getElem];intro i j g hj hij e;have h1:=h.1 j hj;have o:l[j]?=some l[j]:=List.getElem?_eq_getElem hj;rw[XK o (List.getElem?_eq_getElem g) hij e] at h1
  cases h1
 ·rintro⟨h1,r,t,u,w⟩;unfold C5;simp only[Bool.and_eq_true,List.all_eq_true,List.mem_range];refine⟨λk z=>?_,YF.2 ⟨by rw[List.length_map];exact t,λf d=>?_,by rw[List.pairwise_map];exact w⟩⟩
  ·obtain⟨s,c⟩:=sL z;have:=h1 s (List.mem_of_getElem? c);exact cO c (by unfold GO;simp;omega) (λi g q o=>YE r o c g)
  ·obtain⟨s,c,rfl⟩:=List.mem_map.1 d;exact u s c
def B1Q(f:C1G)(s:C1N):List C1N->List C1N
 | []=> [s]
 |x::l=>if 0<HS x.j f then s::x::l else x::B1Q f s l
theorem B2H(f:C1G)(s:C1N):∀(l q:List C1N),l.foldl (A9J f s) (q,true)=(q++l,true)
 | [],q=>by simp
 | x::l,q=>by
  rw[List.foldl_cons,show A9J f s (q,true) x=(q++ [x],true) from by simp[A9J],B2H f s l];simp
theorem B2I(f:C1G)(s:C1N):∀(l q:List C1N),(if (l.foldl (A9J f s) (q,false)).2=true then(l.foldl (A9J f s) (q,false)).1 else(l.foldl (A9J f s) (q,false)).1++ [s])=q++B1Q f s l
 | [],q=>by simp[B1Q]
 | x::l,q=>by
  rw[List.foldl_cons]
  by_cases h:0<HS x.j f
  ·rw[show A9J f s (q,false) x=(q++ [s]++ [x],true) from by simp[A9J,h],B2H f s l];simp[B1Q,h]
  ·rw[show A9J f s (q,false) x=(q++ [x],false) from by simp[A9J,h],B2I f s l];simp[B1Q,h]
theorem A9W(f:C1G)(s:C1N)(l:List C1N):B1Y f s l=B1Q f s l:=by
 have:=B2I f s l [];unfold B1Y A8S;rw[List.take_length];simpa using this
theorem A8u(f:C1G)(s:C1N):∀l:List C1N,List.Perm (B1Q f s l) (s::l)
 | []=>List.Perm.refl _
 | x::l=>by
  unfold B1Q
  split
  ·exact List.Perm.refl _
  ·exact((A8u f s l).cons x).trans (List.Perm.swap s x l)
theorem C2k{f:C1G}{s:C1N}(d:s.j=f):∀{l:List C1N},l.Pairwise (λa b=>HS a.j b.j<0)->(∀x∈l,x.j≠f)->(B1Q f s l).Pairwise (λa b=>HS a.j b.j<0)
 | [],_,_=>by simp[B1Q]
 | x::l,hl,hn=>by
  rw[List.pairwise_cons] at hl;unfold B1Q
  split
  ·rename_i hc;have h0:HS s.j x.j<0:=by rw[d];have:=J1.anti x.j f;omega
   rw[List.pairwise_cons];refine⟨λy c=>?_,List.pairwise_cons.2 hl⟩
   rcases List.mem_cons.1 c with rfl|c
   ·exact h0
   ·exact zB h0 (hl.1 y c)
  ·rename_i hc;rw[List.pairwise_cons];refine⟨λy c=>?_,C2k d hl.2 (λy c=>hn y (by simp[c]))⟩
   rcases List.mem_cons.1 ((A8u f s l).mem_iff.1 c) with rfl|c
   ·rw[d];have h1:HS x.j f≠0:=λe=>hn x (by simp) (B9h e)
    omega
   ·exact hl.1 y c
theorem C3C{l:List C1N}{f:C1G}(h:K5 l f=false):∀x∈l,x.j≠f:=λx b e=>by
 have:K5 l f=true:=by rw[<-e];exact nK (List.mem_map_of_mem b)
 rw[this] at h;cases h
theorem B2J{l:List C1N}{f:C1G}:K5 l f=true↔∃x∈l,x.j=f:=by
 constructor
 ·intro h
  cases hh:K5 l f with
  |false=>rw[hh] at h;cases h
  | true=>
   unfold K5 mQ at hh;rw[List.find?_isSome] at hh;obtain⟨x,b,e⟩:=hh;exact⟨x,b,by simpa using e⟩
 ·rintro⟨x,b,e⟩;rw[<-e];exact nK (List.mem_map_of_mem b)
theorem C3U{l:List C1N}{f:C1G}{c:Int}(h:C5 l=true)(j:BI f=true)(o:K5 l f=false)(hl:l.length<24)(hc:∀s∈l,s.q1<=c)(h0:0<=c)(h1:c<200):C5 (B1Y f ⟨f,c+1⟩ l)=true:=by
 rw[A9W];rw[mem_iff] at h⊢;have g:=A8u f ⟨f,c+1⟩ l;refine⟨λs d=>?_,?_,by rw[g.length_eq];simp only[List.length_cons];omega,λs d=>?_,C2k (f:=f) (s:=⟨f,c+1⟩) rfl h.2.2.2.2 (C3C o)⟩
 ·rcases List.mem_cons.1 (g.mem_iff.1 d) with rfl|d
  ·simp only;omega
  ·exact h.1 s d
 ·refine(g.pairwise_iff (λ{a b} e=>Ne.symm e)).2 (List.pairwise_cons.2 ⟨λy r=>?_,h.2.1⟩);have:=hc y r;simp only;omega
 ·rcases List.mem_cons.1 (g.mem_iff.1 d) with rfl|d
  ·exact j
  ·exact h.2.2.2.1 s d
theorem C3D{l:List C1N}{f:C1G}(h:C5 l=true):C5 (drL l f)=true:=by
 unfold drL;rw[mem_iff] at h⊢;refine⟨λs b=>h.1 s (List.mem_filter.1 b).1,h.2.1.filter _,Nat.le_trans (List.length_filter_le _ _) h.2.2.1,λs b=>h.2.2.2.1 s (List.mem_filter.1 b).1,h.2.2.2.2.filter _⟩
theorem B2Y{e:C1P}:HT e=true↔AR e.p8=true/\C5 e.w=true/\(0<=e.g/\e.g<=200)/\e.m.length<=40/\e.u.length<=500/\(∀s∈e.w,s.q1<=e.g)/\(∀f∈e.m,JS e f=true)/\e.m.Pairwise (λf g=>¬(f.p7=g.p7/\f.q2=g.q2))/\(∀x∈e.u,AN x=true):=by
 have a0:(List.range e.m.length).all (KD e)=true↔(∀f∈e.m,JS e f=true)/\e.m.Pairwise (λf g=>¬(f.p7=g.p7/\f.q2=g.q2)):=by
  simp only[List.all_eq_true,List.mem_range]
  constructor
  ·intro h;have z:∀k f,e.m[k]?=some f->JS e f=true/\MG (e.m.take k) f.p7 f.q2=false:=λk f o=>by
    have:=h k (lS o);unfold KD at this;rw[o] at this;simpa using this
   refine⟨λf t=>?_,?_⟩
   ·obtain⟨k,o⟩:=List.getElem?_of_mem t;exact(z k f o).1
   ·rw[List.pairwise_iff_getElem];intro i j hi hj hij hc;have h1:=(z j _ (List.getElem?_eq_getElem hj)).2;have h2:=gI (l:=e.m.take j) (i:=i) (f:=e.m[i]) (r:=e.m[j].p7) (ts:=e.m[j].q2) (by rw[List.getElem?_take,if_pos hij];exact List.getElem?_eq_getElem hi) hc.1 hc.2;rw[h1] at h2;cases h2
  ·rintro⟨h1,h2⟩ k o;obtain⟨f,t⟩:=sL o;refine jZ t (h1 f (List.mem_of_getElem? t)) (gJ (λi hi g hg hc=>?_)).symm;rw[List.getElem?_take] at hg
   split at hg
   ·rename_i hik;exact YE h2 hg t hik hc
   ·cases hg
 unfold HT GO;simp only[Bool.and_eq_true,decide_eq_true_eq,a0,List.all_eq_true]
 constructor
 ·rintro⟨a,b,c,d,f,g,⟨h,i⟩,j⟩;exact⟨a,b,c,d,f,g,h,i,j⟩
 ·rintro⟨a,b,c,d,f,g,h,i,j⟩;exact⟨a,b,c,d,f,g,⟨h,i⟩,j⟩
theorem C2G{e c:C1P}{f:C1O}(d:c.p8=e.p8)(hc:e.g<=c.g)(h:JS e f=true):JS c f=true:=by
 unfold JS at h⊢;rw[d]
 split at h
 ·cases h
 ·rename_i r j;simp only[Bool.and_eq_true,List.all_eq_true,decide_eq_true_eq] at h⊢;simp only[GO,Bool.and_eq_true,decide_eq_true_eq] at h⊢;refine⟨h.1,?_⟩
  first
   |exact⟨h.2.1,λt b=>⟨(h.2.2 t b).1,Int.le_trans (h.2.2 t b).2 hc⟩⟩
   |exact⟨λt b=>⟨(h.2.1 t b).1,Int.le_trans (h.2.1 t b).2 hc⟩,h.2.2⟩
theorem C3E{e:C1P}{k:Int}{r:ByteArray}{f:C1G}(h:HT e=true)(hl:e.u.length<500)(t:AN ⟨k,r,f⟩=true):HT (wrE e k r f)=true:=by
 rw[B2Y] at h⊢;obtain⟨a,b,c,d,f,g,h,i,j⟩:=h;refine⟨a,b,c,d,by simp[wrE];omega,g,λx o=>C2G (e:=e) rfl (Int.le_refl _) (h x o),i,λx o=>?_⟩
 rcases List.mem_append.1 o with o|o
 ·exact j x o
 ·simp only[List.mem_singleton] at o;rw[o];exact t
theorem C2l{e:C1P}{k:Int}{r:ByteArray}{f:C1G}(h:HT e=true)(hl:e.u.length<500)(z:AN ⟨k,r,f⟩=true)(hf:BI f=true)(hn:K5 e.w f=false)(hm:e.w.length<24)(hc:e.g<200):HT (A8J e f k r)=true:=by
 rw[B2Y] at h⊢;obtain⟨a,b,c,d,q,g,h,i,j⟩:=h;refine⟨a,C3U b hf hn hm g c.1 hc,by simp only[A8J];omega,d,by simp[A8J];omega,λs t=>?_,λx o=>C2G (e:=e) rfl (by simp only[A8J];omega) (h x o),i,λx o=>?_⟩
 ·simp only[A8J] at t⊢;rw[A9W] at t
  rcases List.mem_cons.1 ((A8u _ _ _).mem_iff.1 t) with rfl|t
  ·simp
  ·have:=g s t;omega
 ·rcases List.mem_append.1 o with o|o
  ·exact j x o
  ·simp only[List.mem_singleton] at o;rw[o];exact z
theorem C2b{e:C1P}{k:Int}{r:ByteArray}{f:C1G}(h:HT e=true)(hl:e.u.length<500)(t:AN ⟨k,r,f⟩=true):HT (A8G e f k r)=true:=by
 rw[B2Y] at h⊢;obtain⟨a,b,c,d,q,g,h,i,j⟩:=h;refine⟨a,C3D b,c,d,by simp[A8G];omega,λs w=>g s (List.mem_filter.1 w).1,λx o=>C2G (e:=e) rfl (Int.le_refl _) (h x o),i,λx o=>?_⟩
 rcases List.mem_append.1 o with o|o
 ·exact j x o
 ·simp only[List.mem_singleton] at o;rw[o];exact t
theorem C3V{e:C1P}{f:C1G}(h:HT e=true):HT (A8D e f)=true:=by
 unfold A8D
 split
 ·rename_i hp;simp only[A8Z,Bool.and_eq_true,decide_eq_true_eq,Bool.not_eq_true'] at hp;obtain⟨⟨⟨⟨⟨h1,b⟩,c⟩,d⟩,g⟩,j⟩:=hp;exact C2l h j (by unfold AN;simp[b]) b c d g
 ·exact h
theorem B0l{e:C1P}{f:C1G}(h:HT e=true)(b:K5 e.w f=true):BI f=true:=by
 obtain⟨x,c,rfl⟩:=B2J.1 b;exact(mem_iff.1 (A8H h).1).2.2.2.1 x c
theorem C3W{e:C1P}{f:C1G}(h:HT e=true):HT (A8E e f)=true:=by
 unfold A8E
 split
 ·rename_i hp;simp only[A8g,Bool.and_eq_true,decide_eq_true_eq] at hp;exact C2b h hp.2 (by unfold AN;simp[B0l h hp.1.2])
 ·exact h
end Go.Sy
namespace Go.Sy
open Go
abbrev z0F:C1G:=⟨⟨#[]⟩,[]⟩
def B0t(e:C1P)(rule:ByteArray):C1P:=⟨e.p8,e.w,e.g,e.m,true,e.u++ [⟨6,rule,z0F⟩]⟩
def A8X(m:Match)(e:C1P)(a:Action):C1P:=
 if a.s=1 then(if (!(K5 e.w (A8L a.p2 m.f))&&decide (e.w.length<24))=true then A8J e (A8L a.p2 m.f) 4 m.p7 else e)
 else if a.s=2 then(if K5 e.w (A8L a.p2 m.f)=true then A8G e (A8L a.p2 m.f) 5 m.p7 else e)
 else if a.s=3 then B0t e m.p7 else e
section
variable {m:Match} {e:C1P} {a:Action}
theorem A9O(h:a.s=1)(h1:K5 e.w (A8L a.p2 m.f)=false)(b:e.w.length<24):A8J e (A8L a.p2 m.f) 4 m.p7=A8X m e a:=by simp[A8X,h,h1,b]
theorem A8m(h:a.s=1)(h1:K5 e.w (A8L a.p2 m.f)=true):e=A8X m e a:=by simp[A8X,h,h1]
theorem A8n(h:a.s=1)(b:¬e.w.length<24):e=A8X m e a:=by
 unfold A8X;rw[if_pos h,decide_eq_false b];simp
theorem A9P(h:a.s=2)(h1:K5 e.w (A8L a.p2 m.f)=true):A8G e (A8L a.p2 m.f) 5 m.p7=A8X m e a:=by simp[A8X,h,h1]
theorem A8o(h:a.s=2)(h1:K5 e.w (A8L a.p2 m.f)=false):e=A8X m e a:=by simp[A8X,h,h1]
theorem A9F(h:a.s=3):B0t e m.p7=A8X m e a:=by simp[A8X,h]
theorem A9Q(h1:a.s≠1)(b:a.s≠2)(c:a.s≠3):e=A8X m e a:=by simp[A8X,h1,b,c]
end
theorem B1R{l:List C1N}(h:∀s∈l,0<s.q1)(f:C1G):0<GG l f↔K5 l f=true:=by
 unfold GG K5
 cases e:mQ l f with
 |none=>simp
 | some s=>
  have:=h s (List.mem_of_find?_eq_some e);simpa using this
structure Ac (k:Nat) (s e:C1P):Prop where
  rules:e.p8=s.p8
  fired:e.m=s.m
  log:e.u.length<=s.u.length+k
  mem:e.w.length<=s.w.length+k
  clk0:s.g<=e.g
  clk1:e.g<=s.g+k
  pos:(∀x∈s.w,0<x.q1)->0<=s.g->∀x∈e.w,0<x.q1
theorem Ac.refl(e:C1P):Ac 0 e e:=⟨rfl,rfl,by simp,by simp,Int.le_refl _,by simp,λh _=>h⟩
theorem Ac.act{k:Nat}{s e:C1P}(m:Match)(a:Action)(h:Ac k s e):Ac (k+1) s (A8X m e a):=by
 obtain⟨h1,d,t,u,o,z,g⟩:=h;have b:Ac (k+1) s e:=⟨h1,d,by omega,by omega,o,by omega,g⟩;unfold A8X
 split
 ·split
  ·refine⟨h1,d,by simp[A8J];omega,?_,by simp only[A8J];omega,by simp only[A8J];omega,λr h0 x c=>?_⟩
   ·simp only[A8J,A9W,(A8u _ _ _).length_eq,List.length_cons];omega
   ·simp only[A8J,A9W] at c
    rcases List.mem_cons.1 ((A8u _ _ _).mem_iff.1 c) with rfl|c
    ·simp only;omega
    ·exact g r h0 x c
  ·exact b
 ·split
  ·split
   ·refine⟨h1,d,by simp[A8G];omega,?_,o,by simp only[A8G];omega,λr h0 x c=>g r h0 x (List.mem_filter.1 c).1⟩;have:=List.length_filter_le (λx:C1N=> !decide (x.j=A8L a.p2 m.f)) e.w;simp only[A8G,drL];omega
   ·exact b
  ·split
   ·exact⟨h1,d,by simp[B0t];omega,by simp only[B0t];omega,o,by simp only[B0t];omega,g⟩
   ·exact b
def A7y(m:Match)(l:List Action)(s:C1P)(k:Nat):C1P:=(l.take k).foldl (A8X m) s
theorem A8A{m:Match}{l:List Action}{s:C1P}{k:Nat}{a:Action}(h:l[k]?=some a):A8X m (A7y m l s k) a=A7y m l s (k+1):=by
 unfold A7y;rw[A1 h,List.foldl_append];rfl
theorem B1j(m:Match)(s:C1P):∀(l:List Action) (n:Nat) (e:C1P),Ac n s e->Ac (n+l.length) s (l.foldl (A8X m) e)
 | [],_,_,h=>h
 | a::l,n,e,h=>by
  have:=B1j m s l (n+1) (A8X m e a) (h.act m a);rw[List.length_cons,show n+(l.length+1)=n+1+l.length from by omega];exact this
theorem acK{m:Match}{l:List Action}{s:C1P}(hl:l.length<=2)(k:Nat):Ac 2 s (A7y m l s k):=by
 have h:=B1j m s (l.take k) 0 s (Ac.refl s);have f:(l.take k).length<=2:=by rw[List.length_take];omega
 obtain⟨h1,b,g,j,c,o,d⟩:=h;exact⟨h1,b,by unfold A7y;omega,by unfold A7y;omega,c,by unfold A7y;omega,d⟩
def c0(e:C1P):C3z:=((HY e)[0]?).getD z0C
def stR(e:C1P)(c:C3z):C1M:=(e.p8[c.p0.toNat]?).getD ⟨⟨#[]⟩,0,[],[]⟩
def stS(e:C1P)(c:C3z):C1P:=⟨e.p8,e.w,e.g,e.m++ [⟨c.v.p7,c.q2⟩],e.p,e.u++ [⟨3,c.v.p7,z0F⟩]⟩
def stB(e:C1P):Bool:=HT e&&(!e.p&&(decide (0<(HY e).length)&&(decide (e.g<=198)&&(decide (e.m.length<40)&&decide (e.u.length<498)))))
def stE(e:C1P):C1P:=if stB e=true then(stR e (c0 e)).q0.foldl (A8X (c0 e).v) (stS e (c0 e)) else e
theorem A8j{e:C1P}(h:stB e=false):e=stE e/\false=stB e:=by simp[stE,h]
theorem B0z{e:C1P}{c:C3z}{r:C1M}{k:Nat}(h:stB e=true)(hc:(HY e)[0]?=some c)(b:e.p8[c.p0.toNat]?=some r)(hk:r.q0.length<=k):A7y c.v r.q0 (stS e c) k=stE e/\true=stB e:=by
 have d:c0 e=c:=by simp[c0,hc]
 have f:stR e c=r:=by simp[stR,b]
 refine⟨?_,h.symm⟩;unfold stE A7y;rw[if_pos h,d,f,List.take_of_length_le hk]
theorem B0L{e:C1P}(h1:HT e=true)(b:e.p=false)(c:0<(HY e).length)(d:e.g<=198)(f:e.m.length<40)(h:e.u.length<498):stB e=true:=by simp[stB,h1,b,c,d,f,h]
theorem A9r{e:C1P}(h:HT e=false):stB e=false:=by simp[stB,h]
theorem A9s{e:C1P}(h:e.p=true):stB e=false:=by simp[stB,h]
theorem A8U{e:C1P}(h:¬0<(HY e).length\/¬e.g<=198\/¬e.m.length<40\/¬e.u.length<498):stB e=false:=by
 rcases h with h|h|h|h<;>simp only[stB,decide_eq_false h,Bool.and_false,Bool.false_and]
theorem A9C{e:C1P}(h:stB e=true):HT e=true/\e.p=false/\0<(HY e).length/\e.g<=198/\e.m.length<40/\e.u.length<498:=by
 simp only[stB,Bool.and_eq_true,decide_eq_true_eq,Bool.not_eq_true'] at h;exact h
theorem B2K{e:C1P}{c:C3z}{k:Nat}(h:(HY e)[k]?=some c):HT e=true/\∃m∈GE e.p8 (e.w.map C1N.j),c=NP e.p8 e.w m/\MG e.m m.p7 (BJ e.w m.k)=false:=by
 have b:=List.mem_of_getElem? h;unfold HY at b
 split at b
 ·rename_i he;obtain⟨_,_,m,h1,d,f⟩:=gY b;exact⟨he,m,h1,d,f⟩
 ·cases b
theorem B1u{rules:List C1M}{name:ByteArray}(h:0<=BN rules name):(BN rules name).toNat<rules.length:=by
 unfold BN at*
 split
 ·rename_i e;rw[e] at h;simp at h
 ·rename_i i e;rw[List.findIdx?_eq_some_iff_getElem] at e;obtain⟨b,_⟩:=e;simpa using b
theorem B0F{e:C1P}{c:C3z}{k:Nat}(h:(HY e)[k]?=some c):(0<=c.p0/\c.p0<e.p8.length)/\DJ c.v<=386/\c.v.k.length<=4/\c.q2.length<=4/\uD c.v.f/\c.v.p7.size<=8:=by
 obtain⟨r,m,o,rfl,_⟩:=B2K h;have j:=A8H r;have h1:=aC j.2.1 o;have b:=uX (L0 j.1) h1.1;have d:=uY h1.2;have t:=B1u d;have g:=aF (rules:=e.p8) (l:=e.w) b;refine⟨⟨d,by show BN _ _<_;omega⟩,g.1,b.2,g.2,h1.1.2.2.1,h1.1.2.2.2⟩
theorem B0G{rules:List C1M}(h:AR rules=true){k:Nat}{r:C1M}(b:rules[k]?=some r):r.q0.length<=2:=(OH (X9 h b).1).2.1
theorem B2Z{l:List C1N}(h:C5 l=true):∀s∈l,0<s.q1:=λs b=>by have:=XM h b;omega
theorem B1A{s:ByteArray}(h:EP s=true):s.size<=9:=by
 unfold EP at h
 rcases Bool.or_eq_true_iff.1 h with h|h
 ·have:=IV h;omega
 ·exact A2e h
theorem B1k{b:List C1J}(hb:uD b)(t:ByteArray):(EJ b t).size<=8:=by
 unfold EJ nF
 split
 ·rename_i h;simpa using (IV h).2
 ·split
  ·cases e:b.find? (λx=>decide (x.q4=t)) with
   |none=>exact(by decide:(0:Nat)<=8)
   |some x=>simpa using (hb.2 x (List.mem_of_find?_eq_some e)).2
  ·exact(by decide:(0:Nat)<=8)
theorem B0U{p:C1H}{b:List C1J}(hb:uD b):F9 (A8L p b)<=35:=by
 unfold A8L
 split
 ·rename_i h;simp only[A8q,Bool.and_eq_true] at h;have c:=h.1;unfold CK at c;simp only[Bool.and_eq_true,decide_eq_true_eq] at c;have h1:p.p5.size<=8:=by
   have:=c.1.1;unfold FK at this;simp only[Bool.and_eq_true] at this;exact(IV this.1).2
  have d:∀l:List ByteArray,((l.map (EJ b)).map (·.size)).sum<=8*l.length:=λl=>by
   induction l with
   |nil=>simp
   | cons x l ih=>
    have:=B1k hb x;simp only[List.map_cons,List.sum_cons,List.length_cons] at*;omega
  have f:=d p.a;have g:=c.1.2;simp only[F9,M9,List.length_map];omega
 ·exact(by decide:(0:Nat)<=35)
end Go.Sy
namespace Go.Sy
open Go
theorem A9m{α:Type}{c:α->Nat}{n:Nat}{l:List α}(h:∀x∈l,c x<=n):DD c l<=(n+1)*l.length:=by
 have:=lD h;unfold DD;rw[Nat.add_mul];omega
theorem A9x{s:ByteArray}(h:FK s=true):s.size<=8:=by
 unfold FK at h;simp only[Bool.and_eq_true] at h;exact(IV h.1).2
theorem B2L{p:C1H}(h:CK p=true):E8 p<=38:=by
 unfold CK at h;simp only[Bool.and_eq_true,decide_eq_true_eq,List.all_eq_true] at h;have h1:=A9x h.1.1;have c:∀l:List ByteArray,(∀x∈l,EP x=true)->(l.map (·.size)).sum<=9*l.length:=λl=>by
  induction l with
  |nil=>simp
  | cons x l ih=>
   intro hx;have a:=B1A (hx x (by simp));have b:=ih (λy d=>hx y (by simp[d]));simp only[List.map_cons,List.sum_cons,List.length_cons];omega
 have f:=c p.a h.2;have g:=h.1.2;unfold E8 M9;omega
theorem B1l{p:C1H}(h:B6 p=true):E8 p=0:=by
 unfold B6 at h;simp only[Bool.and_eq_true,decide_eq_true_eq] at h;have b:p.a=[]:=List.eq_nil_of_length_eq_zero h.2;unfold E8 M9;rw[h.1,b];rfl
theorem B1Z{x:C1L}(h:BD x=true):BW x<=38:=by
 unfold BD at h
 split at h
 ·simp only[Bool.and_eq_true,decide_eq_true_eq] at h;have:=B2L h.1;unfold BW;rw[h.2.1,h.2.2];have e:(⟨#[]⟩:ByteArray).size=0:=rfl;omega
 ·split at h
  ·simp only[Bool.and_eq_true] at h;have h1:=B1A h.1;have b:=B1A h.2.1;have c:=B1l h.2.2;unfold BW;omega
  ·cases h
theorem B1v{a:Action}(h:D3 a=true):CV a<=38:=by
 unfold D3 at h;unfold CV
 split at h
 ·exact B2L h
 ·split at h
  ·have:=B1l h;omega
  ·cases h
theorem B0c{r:C1M}(h:CR r=true):BG r<=242/\gH r<=4:=by
 have hl:=OH h;unfold CR GO at h;simp only[Bool.and_eq_true,decide_eq_true_eq,List.all_eq_true,List.mem_range] at h;have h1:=A9x h.1;have d:DD BW r.q<=39*r.q.length:=A9m (λx b=>by
  obtain⟨k,c⟩:=List.getElem?_of_mem b;have:=h.2.2.2.2.1 k (lS c);unfold GP at this;rw[c] at this;simp only[Bool.and_eq_true] at this;exact B1Z this.1)
 have f:DD CV r.q0<=39*r.q0.length:=A9m (λx b=>by
  have:=h.2.2.2.2.2.1 x b;unfold IG at this;simp only[Bool.and_eq_true] at this;exact B1v this.1)
 refine⟨by unfold BG;omega,?_⟩;have g:=cQ r.q r.q.length;have j:gH r=KZ r.q r.q.length:=rfl;omega
theorem B1S{x:C1K}(h:AN x=true):L9 x<=43:=by
 unfold AN at h;unfold L9
 split at h
 ·simp only[Bool.and_eq_true,decide_eq_true_eq] at h;have:=aB h.2;rw[h.1];have e:(⟨#[]⟩:ByteArray).size=0:=rfl;omega
 ·split at h
  ·simp only[Bool.and_eq_true,decide_eq_true_eq] at h;have h1:=A9x h.1;have b:x.j.a=[]:=List.eq_nil_of_length_eq_zero h.2.2;have e:(⟨#[]⟩:ByteArray).size=0:=rfl;unfold F9 M9;rw[h.2.1,b];simp only[List.map_nil,List.sum_nil,List.length_nil];omega
  ·split at h
   ·simp only[Bool.and_eq_true] at h;have h1:=A9x h.1;have b:=aB h.2;omega
   ·cases h
theorem B1a{e:C1P}{f:C1O}(g:AR e.p8=true)(h:JS e f=true):DG f<=12:=by
 unfold JS at h
 split at h
 ·cases h
 ·rename_i r c;have h0:=X9 g c;have w:=B0c h0.1;have z:=(OH h0.1).2.2;simp only[Bool.and_eq_true,decide_eq_true_eq] at h;have j:0<=BN e.p8 f.p7:=by simp_all
  have hl:f.q2.length=gH r:=by simp_all
  have u:f.p7.size<=8:=by
   unfold BN at j
   split at j
   ·omega
   ·rename_i i b;rw[List.findIdx?_eq_some_iff_getElem] at b;obtain⟨o,t,_⟩:=b;have d:e.p8[i].y=f.p7:=by simpa using t
    have:=(OH (X9 g (List.getElem?_eq_getElem o)).1).2.2;rw[d] at this;exact this
  unfold DG;omega
theorem B0H{e:C1P}(h:HT e=true):DI e<=30000:=by
 rw[B2Y] at h;obtain⟨g,d,hc,hf,hl,_,c,_,j⟩:=h;have h1:DD BG e.p8<=243*e.p8.length:=A9m (λr b=>(B0c (YC g b)).1);have t:=YA g;rw[mem_iff] at d;have z:DD CM e.w<=36*e.w.length:=A9m (λs o=>aB (d.2.2.2.1 s o));have h4:=d.2.2.1;have h5:DD DG e.m<=13*e.m.length:=A9m (λf b=>B1a g (c f b));have h6:DD L9 e.u<=44*e.u.length:=A9m (λx b=>B1S (j x b));unfold DI;omega
theorem A9n{α:Type}(c:α->Nat)(l m:List α):DD c (l++m)=DD c l+DD c m:=by
 unfold DD;rw[List.length_append,B2G];omega
theorem B0V{α:Type}(c:α->Nat)(x:α):DD c [x]=1+c x:=by unfold DD;simp[AI]
theorem B1T{α:Type}{c:α->Nat}{l m:List α}(h:List.Perm l m):DD c l=DD c m:=by
 unfold DD;rw[h.length_eq,B1t h]
theorem A9y{α:Type}(c:α->Nat)(x:α)(l:List α):DD c (x::l)=1+c x+DD c l:=by unfold DD;simp only[List.length_cons,AI,List.map_cons,List.sum_cons];omega
theorem B1B{α:Type}(c:α->Nat):DD c []=0:=by simp[DD,AI]
theorem B1U(l:List C1N)(f:C1G):DD CM (drL l f)<=DD CM l:=by
 unfold drL
 induction l with
 |nil=>simp
 | cons x l ih=>
  rw[List.filter_cons,A9y]
  split
  ·rw[A9y];omega
  ·omega
theorem B2a{m:Match}(d:DJ m<=386)(hb:uD m.f)(h:m.p7.size<=8)(e:C1P)(a:Action):DI (A8X m e a)<=DI e+100:=by
 have o:=B0U (p:=a.p2) hb;unfold A8X
 split
 ·split
  ·unfold DI A8J;simp only[A9W,B1T (A8u _ _ _),A9y,A9n,B1B];have c:CM ⟨A8L a.p2 m.f,e.g+1⟩=F9 (A8L a.p2 m.f):=rfl;have b:L9 ⟨4,m.p7,A8L a.p2 m.f⟩=m.p7.size+F9 (A8L a.p2 m.f):=rfl;rw[c,b];omega
  ·omega
 ·split
  ·split
   ·unfold DI A8G;simp only[A9n,B0V];have:=B1U e.w (A8L a.p2 m.f);have b:L9 ⟨5,m.p7,A8L a.p2 m.f⟩=m.p7.size+F9 (A8L a.p2 m.f):=rfl;omega
   ·omega
  ·split
   ·unfold DI B0t;simp only[A9n,B0V];have b:L9 ⟨6,m.p7,z0F⟩=m.p7.size+F9 z0F:=rfl;have j:F9 z0F=0:=rfl;omega
   ·omega
theorem B1m{m:Match}(b:DJ m<=386)(hb:uD m.f)(c:m.p7.size<=8):∀(l:List Action) (e:C1P),DI (l.foldl (A8X m) e)<=DI e+100*l.length
 | [],e=>by simp
 | a::l,e=>by
  have h1:=B2a b hb c e a;have d:=B1m b hb c l (A8X m e a);simp only[List.foldl_cons,List.length_cons];omega
theorem B3A{e:C1P}{c:C3z}(h1:c.v.p7.size<=8)(b:c.q2.length<=4):DI (stS e c)<=DI e+50:=by
 unfold DI stS;simp only[A9n,B0V];have d:DG ⟨c.v.p7,c.q2⟩=c.v.p7.size+c.q2.length:=rfl;have f:L9 ⟨3,c.v.p7,z0F⟩=c.v.p7.size+F9 z0F:=rfl;have g:F9 z0F=0:=rfl;omega
theorem B3q{e:C1P}(h:stB e=true):(HY e)[0]?=some (c0 e)/\e.p8[(c0 e).p0.toNat]?=some (stR e (c0 e))/\(stR e (c0 e)).q0.length<=2:=by
 have f:=A9C h;obtain⟨c,d⟩:=sL f.2.2.1;have g:c0 e=c:=by simp[c0,d]
 rw[g];have o:=B0F d;obtain⟨r,b⟩:=sL (l:=e.p8) (i:=c.p0.toNat) (by omega);have j:stR e c=r:=by simp[stR,b]
 rw[j];exact⟨d,b,B0G (A8H f.1).2.1 b⟩
theorem B3B{e:C1P}(h:DI e<=1048576):DI (stE e)<=1048576:=by
 unfold stE
 split
 ·rename_i hb;have c:=B3q hb;have b:=B0F c.1;have h1:=B0H (A9C hb).1;have d:=B3A (e:=e) b.2.2.2.2.2 b.2.2.2.1;have f:=B1m b.2.1 b.2.2.2.2.1 b.2.2.2.2.2 (stR e (c0 e)).q0 (stS e (c0 e));have g:100*(stR e (c0 e)).q0.length<=100*2:=Nat.mul_le_mul_left _ c.2.2;omega
 ·exact h
theorem B1b:P9 z0F:=⟨(by decide:(0:Nat)<=9223372036854775807),by intro x hx;cases hx⟩
theorem B2b{p:C1H}{b:List C1J}(hb:uD b):P9 (A8L p b):=by
 unfold A8L
 split
 ·rename_i h;simp only[A8q,Bool.and_eq_true] at h;have c:=h.1;unfold CK at c;simp only[Bool.and_eq_true] at c;have h1:=A9x c.1.1;refine⟨by show p.p5.size<=_;omega,λx d=>?_⟩;obtain⟨t,_,rfl⟩:=List.mem_map.1 d;have:=B1k hb t;unfold VP;omega
 ·exact B1b
theorem A9X{α:Type}{p:α->Prop}{l m:List α}(h1:LR p l)(b:LR p m):LR p (l++m):=λx c=>by
 rcases List.mem_append.1 c with h|h
 ·exact h1 x h
 ·exact b x h
theorem A9Y{α:Type}{p:α->Prop}{x:α}(h:p x):LR p [x]:=λy b=>by simp only[List.mem_singleton] at b;rw[b];exact h
theorem B0M{n:Int}(h: -9223372036854775808<=n/\n<=9223372036854775807):okI n:=h
theorem B3C{m:Match}(hb:uD m.f)(w:m.p7.size<=8){e:C1P}(a:Action)(hc: -1000<=e.g/\e.g<=1000)(h:QC e):QC (A8X m e a):=by
 have u:=B2b (p:=a.p2) hb;have b:VP m.p7:=by unfold VP;omega
 obtain⟨h1,c,r,d,t,j⟩:=h;unfold A8X
 split
 ·split
  ·refine⟨h1,?_,by simp only[A8J];unfold okI;omega,d,trivial,A9X j (A9Y ⟨B0M (n:=4) (by omega),b,u⟩)⟩;intro x o;simp only[A8J,A9W] at o
   rcases List.mem_cons.1 ((A8u _ _ _).mem_iff.1 o) with rfl|o
   ·exact⟨u,B0M (n:=e.g+1) (by omega)⟩
   ·exact c x o
  ·exact⟨h1,c,r,d,t,j⟩
 ·split
  ·split
   ·exact⟨h1,λx o=>c x (List.mem_filter.1 o).1,r,d,trivial,A9X j (A9Y ⟨B0M (n:=5) (by omega),b,u⟩)⟩
   ·exact⟨h1,c,r,d,t,j⟩
  ·split
   ·exact⟨h1,c,r,d,trivial,A9X j (A9Y ⟨B0M (n:=6) (by omega),b,B1b⟩)⟩
   ·exact⟨h1,c,r,d,t,j⟩
theorem B1n{m:Match}(hb:uD m.f)(b:m.p7.size<=8){s:C1P}(hc: -900<=s.g/\s.g<=900){l:List Action}(hl:l.length<=2)(h:QC s):∀k,k<=l.length->QC (A7y m l s k)
 |0,_=>h
 | k+1,hk=>by
  obtain⟨a,d⟩:=sL (l:=l) (i:=k) (by omega);rw[<-A8A d];have c:=acK (m:=m) (s:=s) hl k;exact B3C hb b a ⟨by have:=c.clk0;omega,by have:=c.clk1;omega⟩ (B1n hb b hc hl h k (by omega))
theorem B2M{l:List C1N}(h:C5 l=true)(fs:List C1G):LR okI (BJ l fs):=λx b=>by
 obtain⟨f,_,rfl⟩:=List.mem_map.1 b;have:=cY h f;unfold okI;omega
theorem B3D{e:C1P}{c:C3z}{k:Nat}(h:QC e)(hc:(HY e)[k]?=some c):QC (stS e c):=by
 obtain⟨h1,d,f,g,r,j⟩:=h;have t:=B0F hc;obtain⟨o,m,u,rfl,_⟩:=B2K hc;have b:VP (NP e.p8 e.w m).v.p7:=by unfold VP;omega
 exact⟨h1,d,f,A9X g (A9Y ⟨b,B2M (A8H o).1 _⟩),trivial,A9X j (A9Y ⟨B0M (n:=3) (by omega),b,B1b⟩)⟩
theorem B3E{e:C1P}(h:QC e):QC (stE e):=by
 unfold stE
 split
 ·rename_i hb;have d:=A9C hb;have b:=B3q hb;have c:=B0F b.1;have f:=A8H d.1;have:=B1n (m:=(c0 e).v) c.2.2.2.2.1 c.2.2.2.2.2 (s:=stS e (c0 e)) ⟨by show-900<=e.g;omega,by show e.g<=900;omega⟩ b.2.2 (B3D h b.1) _ (Nat.le_refl _);unfold A7y at this
  rwa [List.take_length] at this
 ·exact h
end Go.Sy
namespace Go.Sy
open Go
theorem B1o{p:C1H}(h:CK p=true):p.a.length<=3:=by
 unfold CK at h;simp only[Bool.and_eq_true,decide_eq_true_eq] at h;exact h.1.2
theorem A8p{m:Match}{e:C1P}{a:Action}(h:a.s=3):wrE ⟨e.p8,e.w,e.g,e.m,true,e.u⟩ 6 m.p7 ⟨⟨#[]⟩,[]⟩=A8X m e a:=A9F (m:=m) (e:=e) (a:=a) h
theorem A8Y{l:List C1N}{f:C1G}(h:∀s∈l,0<s.q1)(b:0<GG l f):K5 l f=true:=(B1R h f).1 b
theorem A8f{l:List C1N}{f:C1G}(h:∀s∈l,0<s.q1)(b:¬0<GG l f):K5 l f=false:=by
 cases hb:K5 l f with
 |false=>rfl
 |true=>exact absurd ((B1R h f).2 hb) b
def stP(e:C1P):Bool:=HT e&&(!e.p&&(decide (e.g<=198)&&(decide (e.m.length<40)&&decide (e.u.length<498))))
theorem B0d{e:C1P}(h1:HT e=true)(b:e.p=false)(c:e.g<=198)(d:e.m.length<40)(f:e.u.length<498):stP e=true:=by simp[stP,h1,b,c,d,f]
theorem B0I{e:C1P}(h:HT e=false):stP e=false:=by simp[stP,h]
theorem B0J{e:C1P}(h:e.p=true):stP e=false:=by simp[stP,h]
theorem A8d{e:C1P}(h:¬e.g<=198\/¬e.m.length<40\/¬e.u.length<498):stP e=false:=by
 rcases h with h|h|h<;>simp only[stP,decide_eq_false h,Bool.and_false,Bool.false_and]
theorem A9o{e:C1P}(h:stP e=true):HT e=true/\e.p=false/\e.g<=198/\e.m.length<40/\e.u.length<498:=by
 simp only[stP,Bool.and_eq_true,decide_eq_true_eq,Bool.not_eq_true'] at h;exact h
theorem B1C{e:C1P}(h:HT e=true):EK e.p8 e.w e.m=HY e:=by simp[HY,h]
theorem B3r{e:C1P}(h:stP e=true)(hl:0<(EK e.p8 e.w e.m).length):stB e=true:=by
 have b:=A9o h;rw[B1C b.1] at hl;exact B0L b.1 b.2.1 hl b.2.2.1 b.2.2.2.1 b.2.2.2.2
theorem A8z{e:C1P}(h:stP e=false):stB e=false:=by
 cases hb:stB e with
 |false=>rfl
 | true=>
  have b:=A9C hb;rw[B0d b.1 b.2.1 b.2.2.2.1 b.2.2.2.2.1 b.2.2.2.2.2] at h;cases h
theorem A9A{e:C1P}(h:stP e=true)(hl:(EK e.p8 e.w e.m).length=0):stB e=false:=by
 rw[B1C (A9o h).1] at hl;exact A8U (.inl (by omega))
theorem A9c{e:C1P}{c:C3z}{r:C1M}{k:Nat}(h:stP e=true)(hc:(EK e.p8 e.w e.m)[0]?=some c)(b:e.p8[c.p0.toNat]?=some r)(hk:r.q0.length<=k):A7y c.v r.q0 (stS e c) k=stE e/\true=stB e:=by
 have d:=B3r h (lS hc);rw[B1C (A9o h).1] at hc;exact B0z d hc b hk
theorem B2c{e:C1P}{c:C3z}{k:Nat}(h:HT e=true)(hc:(EK e.p8 e.w e.m)[k]?=some c):(0<=c.p0/\c.p0<e.p8.length)/\DJ c.v<=386/\c.v.k.length<=4/\c.q2.length<=4/\uD c.v.f/\c.v.p7.size<=8:=by
 rw[B1C h] at hc;exact B0F hc
theorem acS{e:C1P}{c:C3z}(h:HT e=true)(z:e.g<=198)(h6:e.u.length<498){l:List Action}(hl:l.length<=2)(k:Nat):(A7y c.v l (stS e c) k).u.length<=600/\(A7y c.v l (stS e c) k).w.length<=26/\(-1000<=(A7y c.v l (stS e c) k).g/\(A7y c.v l (stS e c) k).g<=1000)/\∀x∈(A7y c.v l (stS e c) k).w,0<x.q1:=by
 have t:=A8H h;have b:=acK (m:=c.v) (s:=stS e c) hl k;have h1:=b.log;have j:=b.mem;have o:=b.clk0;have r:=b.clk1;have e1:(stS e c).u.length=e.u.length+1:=by simp[stS]
 have d:(stS e c).w=e.w:=rfl;have f:(stS e c).g=e.g:=rfl;rw[d] at j;rw[f] at o r;exact⟨by omega,by omega,⟨by omega,by omega⟩,b.pos (by rw[d];exact B2Z t.1) (by rw[f];omega)⟩
theorem B0e{e:C1P}{f:C1G}(h:A8Z e f=true):HT e=true/\BI f=true/\K5 e.w f=false/\e.w.length<24/\e.g<200/\e.u.length<500:=by
 simp only[A8Z,Bool.and_eq_true,decide_eq_true_eq,Bool.not_eq_true'] at h;obtain⟨⟨⟨⟨⟨h1,b⟩,c⟩,d⟩,j⟩,o⟩:=h;exact⟨h1,b,c,d,j,o⟩
theorem B3H{e:C1P}{f:C1G}(h:QC e)(c:P9 f):QC (A8D e f):=by
 unfold A8D
 split
 ·rename_i hp;have r:=B0e hp;have w:=A8H r.1;obtain⟨h1,d,t,j,u,o⟩:=h;refine⟨h1,?_,by simp only[A8J];unfold okI;omega,j,trivial,A9X o (A9Y ⟨B0M (n:=1) (by omega),(by decide:(0:Nat)<=9223372036854775807),c⟩)⟩;intro x b;simp only[A8J,A9W] at b
  rcases List.mem_cons.1 ((A8u _ _ _).mem_iff.1 b) with rfl|b
  ·exact⟨c,B0M (n:=e.g+1) (by omega)⟩
  ·exact d x b
 ·exact h
theorem B3I{e:C1P}{f:C1G}(h:QC e)(b:P9 f):QC (A8E e f):=by
 unfold A8E
 split
 ·obtain⟨h1,c,d,g,r,j⟩:=h;exact⟨h1,λx o=>c x (List.mem_filter.1 o).1,d,g,trivial,A9X j (A9Y ⟨B0M (n:=2) (by omega),(by decide:(0:Nat)<=9223372036854775807),b⟩)⟩
 ·exact h
theorem A9Z{α:Type}{p:α->Prop}:LR p []:=λx b=>by cases b
theorem B2f{rules:List C1M}(h:LR H9 rules):QC (A8M rules):=by
 unfold A8M QC
 split
 ·exact⟨h,A9Z,by unfold okI;simp only;omega,A9Z,trivial,A9Z⟩
 ·exact⟨A9Z,A9Z,by unfold okI;simp only;omega,A9Z,trivial,A9Z⟩
section
variable {e y:C1P} {v:C1K} {log:List C1K} {rules:List C1M} {k q n i:Nat}
end
end Go.Sy
