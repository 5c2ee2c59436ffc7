/-
  Times of facts, choices: what they are; marks in matches and choices.
  Conditions: those that each theorem states.
-/
import Derived.Test.YtmjmglkogcomaaaGreatDoorNum
import Derived.Test.YtmjmglkogcomaaaGreatDoorApm
namespace Go.Sy
open Go
instance:Flt C1J:=⟨λh=>by
 obtain⟨c1,c2,e,h1,h2⟩:=h;exact⟨c1,c2,[],[],e,rfl,⟨h1,rfl⟩,⟨h2,rfl⟩⟩⟩
def KE(p:C1J):Nat:=p.q4.size+p.q3.size
def KF(p:C1J):Prop:=VP p.q4/\VP p.q3
def DJ(m:Match):Nat:=m.p7.size+DD F9 m.k+DD KE m.f
theorem UO{α:Type}{p:α->Bool}:∀{l:List α} {k:Nat} {x:α},l[k]?=some x->p x=true->(∀i,i<k->∀y,l[i]?=some y->p y=false)->l.find? p=some x
 | [],k,x,h,_,_=>by simp at h
 | y::l,0,x,h,hp,_=>by
  simp only[List.getElem?_cons_zero,Option.some.injEq] at h;subst h;simp[List.find?,hp]
 | y::l,k+1,x,h,hp,hi=>by
  simp only[List.getElem?_cons_succ] at h;have h0:=hi 0 (by omega) y rfl;simp only[List.find?,h0];exact UO h hp (λi b z a=>hi (i+1) (by omega) z (by simpa using a))
theorem mP{α:Type}{p:α->Bool}{l:List α}(a:∀i,i<l.length->∀y,l[i]?=some y->p y=false):l.find? p=none:=by
 rw[List.find?_eq_none];intro x hx;obtain⟨i,h⟩:=List.getElem?_of_mem hx;simp[a i (List.getElem?_eq_some_iff.1 h).1 x h]
theorem A2D{l:List Int}{x y:Int}{k:Nat}(h:l[k]?=some y)(e:y=x):true=l.contains x:=by
 subst e;exact(List.contains_iff_mem.2 (List.mem_of_getElem? h)).symm
theorem A2E{l:List Int}{x:Int}(a:∀i,i<l.length->l[i]?≠some x):false=l.contains x:=by
 symm
 rw[Bool.eq_false_iff];intro h;obtain⟨i,e⟩:=List.getElem?_of_mem (List.contains_iff_mem.1 h);exact a i (List.getElem?_eq_some_iff.1 e).1 e
def mQ(l:List C1N)(f:C1G):Option C1N:=l.find? (λs=>decide (s.j=f))
def GG(l:List C1N)(f:C1G):Int:=match mQ l f with|some s=>s.q1|none=>0
def K5(l:List C1N)(f:C1G):Bool:=(mQ l f).isSome
theorem sK{l:List C1N}{f:C1G}{k:Nat}{s:C1N}(h:l[k]?=some s)(e:s.j=f)(a:∀i,i<k->∀y,l[i]?=some y->y.j≠f):mQ l f=some s:=
 UO h (by simp[e]) (λi b y c=>by simp[a i b y c])
theorem sM{l:List C1N}{f:C1G}(a:∀i,i<l.length->∀y,l[i]?=some y->y.j≠f):mQ l f=none:=mP (λi b y c=>by simp[a i b y c])
theorem cW{l:List C1N}{f:C1G}{k:Nat}{s:C1N}(h:l[k]?=some s)(e:s.j=f)(a:∀i,i<k->∀y,l[i]?=some y->y.j≠f):s.q1=GG l f:=by unfold GG;rw[sK h e a]
theorem cX{l:List C1N}{f:C1G}(a:∀i,i<l.length->∀y,l[i]?=some y->y.j≠f):0=GG l f:=by unfold GG;rw[sM a]
theorem xP{l:List C1N}{f:C1G}{k:Nat}{s:C1N}(h:l[k]?=some s)(e:s.j=f)(a:∀i,i<k->∀y,l[i]?=some y->y.j≠f):true=K5 l f:=by unfold K5;rw[sK h e a];rfl
theorem xQ{l:List C1N}{f:C1G}(a:∀i,i<l.length->∀y,l[i]?=some y->y.j≠f):false=K5 l f:=by unfold K5;rw[sM a];rfl
theorem XM{l:List C1N}(h:C5 l=true){s:C1N}(b:s∈l):1<=s.q1/\s.q1<=200:=by
 obtain⟨i,a⟩:=List.getElem?_of_mem b;simp only[C5,Bool.and_eq_true,List.all_eq_true] at h;have:=h.1 i (by simp only[List.mem_range];exact(List.getElem?_eq_some_iff.1 a).1);simp only[HE,a,Bool.and_eq_true,GO,decide_eq_true_eq] at this;omega
theorem cY{l:List C1N}(h:C5 l=true)(f:C1G):K5 l f=decide (GG l f≠0)/\0<=GG l f/\GG l f<=200:=by
 unfold K5 GG
 cases e:mQ l f with
 |none=>simp
 | some s=>
  have:=XM h (List.mem_of_find?_eq_some e);simp;omega
def BJ(l:List C1N)(fs:List C1G):List Int:=fs.map (GG l)
theorem XN{l:List C1N}{fs:List C1G}{k:Nat}{f:C1G}(h:fs[k]?=some f):BJ l (fs.take k)++ [GG l f]=BJ l (fs.take (k+1)):=by
 unfold BJ;rw[A1 h,List.map_append];rfl
theorem SL(l:List C1N)(fs:List C1G)(k:Nat):(BJ l (fs.take k)).length<=k:=by unfold BJ;rw[List.length_map,List.length_take];omega
theorem XO(l:List C1N)(fs:List C1G):[]=BJ l (fs.take 0):=by simp[BJ]
def kB(l:List ByteArray):Nat:=(l.filter BA).length
def spC(x:C1L):Nat:=kB x.p2.a
def GD(r:C1M):Nat:=r.q.length+AI spC r.q
theorem A0u{l:List ByteArray}{k:Nat}{a:ByteArray}(h:l[k]?=some a)(b:BA a=true):kB (l.take k)+1=kB (l.take (k+1)):=by unfold kB;rw[A1 h,List.filter_append];simp[b]
theorem A0v{l:List ByteArray}{k:Nat}{a:ByteArray}(h:l[k]?=some a)(b:BA a=false):kB (l.take k)=kB (l.take (k+1)):=by unfold kB;rw[A1 h,List.filter_append];simp[b]
theorem gK(l:List ByteArray):kB l<=l.length:=List.length_filter_le _ _
theorem kC{x:C1L}{k:Nat}(h:x.p2.a.length<=k):kB (x.p2.a.take k)=spC x:=by unfold spC;rw[List.take_of_length_le h]
theorem kD(l:List C1L):AI spC l<=AI BW l:=by
 induction l with
 |nil=>simp[AI]
 | cons x l ih=>
  simp only[AI,List.map_cons,List.sum_cons] at ih⊢;have h1:=gK x.p2.a;have b:=BX x;have c:spC x=kB x.p2.a:=rfl;omega
theorem cZ(l:List C1L)(k:Nat):AI spC (l.take k)<=AI spC l:=AV l spC k
def A2F(rules:List C1M)(m:Match):C1M:=(rules[(BN rules m.p7).toNat]?).getD ⟨⟨#[]⟩,0,[],[]⟩
def z0C:C3z:=⟨⟨⟨#[]⟩,[],[]⟩,0,[],0,0⟩
def KG(rules:List C1M)(l:List C1N)(m:Match):Bool:=decide (0<=BN rules m.p7)&&m.k.all (K5 l)
def NP(rules:List C1M)(l:List C1N)(m:Match):C3z:=⟨m,(A2F rules m).p3,BJ l m.k,(GD (A2F rules m):Int),BN rules m.p7⟩
def FU(rules:List C1M)(l:List C1N)(m:Match):C3z:=if KG rules l m=true then NP rules l m else z0C
theorem ZM{rules:List C1M}{l:List C1N}{m:Match}(h:BN rules m.p7<0):KG rules l m=false:=by unfold KG;rw[decide_eq_false (by omega)];rfl
theorem gL{rules:List C1M}{l:List C1N}{m:Match}{f:C1G}{i:Nat}(a:m.k[i]?=some f)(h:K5 l f=false):KG rules l m=false:=by
 unfold KG;have:m.k.all (K5 l)=false:=by
  rw[List.all_eq_false];exact⟨f,List.mem_of_getElem? a,by simp[h]⟩
 rw[this];simp
theorem sN{rules:List C1M}{l:List C1N}{m:Match}(h0:0<=BN rules m.p7)(a:∀i,i<m.k.length->∀f,m.k[i]?=some f->K5 l f=true):KG rules l m=true:=by
 unfold KG;rw[decide_eq_true h0];simp only[Bool.true_and,List.all_eq_true];intro f hf;obtain⟨i,h⟩:=List.getElem?_of_mem hf;exact a i (List.getElem?_eq_some_iff.1 h).1 f h
theorem gM{rules:List C1M}{l:List C1N}{m:Match}{r:C1M}(h:KG rules l m=true)(a:rules[(BN rules m.p7).toNat]?=some r):(⟨m,r.p3,BJ l m.k,(GD r:Int),BN rules m.p7⟩:C3z)=FU rules l m/\true=KG rules l m:=by
 simp[FU,h,NP,A2F,a]
def G9(rules:List C1M)(l:List C1N)(m:Match):Bool:=AR rules&&C5 l&&KG rules l m
def CW(rules:List C1M)(l:List C1N)(m:Match):C3z:=if G9 rules l m=true then NP rules l m else z0C
theorem C6g{rules:List C1M}{l:List C1N}{m:Match}(h:AR rules=false\/C5 l=false\/KG rules l m=false):z0C=CW rules l m/\false=G9 rules l m:=by
 rcases h with h|h|h<;>simp[CW,G9,h]
theorem A2G{rules:List C1M}{l:List C1N}{m:Match}(h1:AR rules=true)(a:C5 l=true):FU rules l m=CW rules l m/\KG rules l m=G9 rules l m:=by simp[CW,G9,FU,h1,a]
theorem sO{rules:List C1M}{l:List C1N}{m:Match}{r:C1M}(h1:AR rules=true)(a:C5 l=true)(c:0<=BN rules m.p7)(d:(BJ l m.k).contains 0=false)(g:rules[(BN rules m.p7).toNat]?=some r):(⟨m,r.p3,BJ l m.k,(GD r:Int),BN rules m.p7⟩:C3z)=CW rules l m/\true=G9 rules l m:=by
 have j:KG rules l m=true:=sN c (λi n f h=>by
  rw[(cY a f).1];rw[decide_eq_true_eq];intro e;have:(BJ l m.k).contains 0=true:=List.contains_iff_mem.2 (by
   rw[<-e];exact List.mem_map_of_mem (List.mem_of_getElem? h))
  rw[d] at this;cases this)
 have:=gM j g;have b:=A2G (m:=m) h1 a;exact⟨this.1.trans b.1,this.2.trans b.2⟩
theorem sP{rules:List C1M}{l:List C1N}{m:Match}(a:C5 l=true)(b:(BJ l m.k).contains 0=true):z0C=CW rules l m/\false=G9 rules l m:=by
 refine C6g (.inr (.inr ?_));obtain⟨f,c,e⟩:=List.mem_map.1 (List.contains_iff_mem.1 b);obtain⟨i,d⟩:=List.getElem?_of_mem c;exact gL d (by rw[(cY a f).1,e];simp)
end Go.Sy
namespace Go.Sy
open Go
def A9J(f:C1G)(s:C1N)(p:List C1N × Bool)(x:C1N):List C1N × Bool:=(if (!p.2&&decide (0<HS x.j f))=true then p.1++ [s]++ [x] else p.1++ [x],p.2||decide (0<HS x.j f))
def A8S(f:C1G)(s:C1N)(l:List C1N)(k:Nat):List C1N × Bool:=(l.take k).foldl (A9J f s) ([],false)
theorem B0E{f:C1G}{s x:C1N}{l:List C1N}{k:Nat}(h:l[k]?=some x):A8S f s l (k+1)=A9J f s (A8S f s l k) x:=by
 unfold A8S;rw[A1 h,List.foldl_append];rfl
theorem B2E(f:C1G)(s:C1N)(l:List C1N):[]=(A8S f s l 0).1:=by simp[A8S]
theorem A9T{f:C1G}{s x:C1N}{l:List C1N}{k:Nat}(h:l[k]?=some x)(hd:(A8S f s l k).2=false)(hc:0<HS x.j f):(A8S f s l k).1++ [s]++ [x]=(A8S f s l (k+1)).1:=by rw[B0E h];simp[A9J,hd,hc]
theorem A9j{f:C1G}{s x:C1N}{l:List C1N}{k:Nat}(h:l[k]?=some x)(hc:¬0<HS x.j f):(A8S f s l k).1++ [x]=(A8S f s l (k+1)).1:=by rw[B0E h];simp[A9J,hc]
theorem A9k{f:C1G}{s x:C1N}{l:List C1N}{k:Nat}(h:l[k]?=some x)(hd:(A8S f s l k).2=true):(A8S f s l k).1++ [x]=(A8S f s l (k+1)).1:=by rw[B0E h];simp[A9J,hd]
theorem A9l{f:C1G}{s x:C1N}{l:List C1N}{k:Nat}(h:l[k]?=some x)(hc:0<HS x.j f):true=(A8S f s l (k+1)).2:=by rw[B0E h];simp[A9J,hc]
theorem B2W{f:C1G}{s x:C1N}{l:List C1N}{k:Nat}(h:l[k]?=some x)(hd:(A8S f s l k).2=true):true=(A8S f s l (k+1)).2:=by rw[B0E h];simp[A9J,hd]
theorem B2X{f:C1G}{s x:C1N}{l:List C1N}{k:Nat}(h:l[k]?=some x)(hd:(A8S f s l k).2=false)(hc:¬0<HS x.j f):false=(A8S f s l (k+1)).2:=by rw[B0E h];simp[A9J,hd,hc]
theorem A9U{f:C1G}{s x:C1N}{l:List C1N}{k:Nat}{b:Bool}(h:l[k]?=some x)(hd:b=(A8S f s l k).2)(hb:b=true):b=(A8S f s l (k+1)).2:=by rw[hb];exact B2W h (hd.symm.trans hb)
theorem A9V{f:C1G}{s x:C1N}{l:List C1N}{k:Nat}{b:Bool}(h:l[k]?=some x)(hd:b=(A8S f s l k).2)(hb:b=false)(hc:¬0<HS x.j f):b=(A8S f s l (k+1)).2:=by rw[hb];exact B2X h (hd.symm.trans hb) hc
theorem B1N(f:C1G)(s:C1N):∀(l:List C1N) (p:List C1N × Bool),(l.foldl (A9J f s) p).1.length<=p.1.length+2*l.length
 | [],p=>by simp
 | x::l,p=>by
  have a:=B1N f s l (A9J f s p x);have h1:(A9J f s p x).1.length<=p.1.length+2:=by
   unfold A9J;simp only
   split<;>simp
  simp only[List.foldl_cons,List.length_cons];omega
theorem B1O(f:C1G)(s:C1N)(l:List C1N)(k:Nat):(A8S f s l k).1.length<=2*k:=by
 have:=B1N f s (l.take k) ([],false);have a:(l.take k).length<=k:=by rw[List.length_take];omega
 unfold A8S;simp only[List.length_nil] at this;omega
def B1Y(f:C1G)(s:C1N)(l:List C1N):List C1N:=if (A8S f s l l.length).2=true then(A8S f s l l.length).1 else(A8S f s l l.length).1++ [s]
theorem B0w{f:C1G}{s:C1N}{l:List C1N}{k:Nat}(h1:k<=l.length)(a:l.length<=k)(hd:(A8S f s l k).2=true):(A8S f s l k).1=B1Y f s l:=by
 have e:k=l.length:=by omega
 subst e;simp[B1Y,hd]
theorem B0x{f:C1G}{s:C1N}{l:List C1N}{k:Nat}(h1:k<=l.length)(a:l.length<=k)(hd:(A8S f s l k).2=false):(A8S f s l k).1++ [s]=B1Y f s l:=by
 have e:k=l.length:=by omega
 subst e;simp[B1Y,hd]
def wrE(e:C1P)(kind:Int)(rule:ByteArray)(f:C1G):C1P:=⟨e.p8,e.w,e.g,e.m,e.p,e.u++ [⟨kind,rule,f⟩]⟩
def A8J(e:C1P)(f:C1G)(kind:Int)(rule:ByteArray):C1P:=⟨e.p8,B1Y f ⟨f,e.g+1⟩ e.w,e.g+1,e.m,e.p,e.u++ [⟨kind,rule,f⟩]⟩
def drL(l:List C1N)(f:C1G):List C1N:=l.filter (λx=> !decide (x.j=f))
def A8G(e:C1P)(f:C1G)(kind:Int)(rule:ByteArray):C1P:=⟨e.p8,drL e.w f,e.g,e.m,e.p,e.u++ [⟨kind,rule,f⟩]⟩
theorem B2p(l:List C1N)(f:C1G):[]=drL (l.take 0) f:=by simp[drL]
theorem B1f{l:List C1N}{f:C1G}{k:Nat}{x:C1N}(h:l[k]?=some x)(e:x.j≠f):drL (l.take k) f++ [x]=drL (l.take (k+1)) f:=by unfold drL;rw[A1 h,List.filter_append];simp[e]
theorem B1g{l:List C1N}{f:C1G}{k:Nat}{x:C1N}(h:l[k]?=some x)(e:x.j=f):drL (l.take k) f=drL (l.take (k+1)) f:=by unfold drL;rw[A1 h,List.filter_append];simp[e]
theorem B1h(l:List C1N)(f:C1G)(k:Nat):(drL (l.take k) f).length<=k:=by
 have h1:=List.length_filter_le (λx:C1N=> !decide (x.j=f)) (l.take k);have a:(l.take k).length<=k:=by rw[List.length_take];omega
 unfold drL;omega
theorem B1i{l:List C1N}{f:C1G}{k:Nat}(h:l.length<=k):drL (l.take k) f=drL l f:=by rw[List.take_of_length_le h]
def A8Z(e:C1P)(f:C1G):Bool:=HT e&&BI f&& !K5 e.w f&&decide (e.w.length<24)&&decide (e.g<200)&&decide (e.u.length<500)
def A8D(e:C1P)(f:C1G):C1P:=if A8Z e f=true then A8J e f 1 ⟨#[]⟩ else e
def A8g(e:C1P)(f:C1G):Bool:=HT e&&K5 e.w f&&decide (e.u.length<500)
def A8E(e:C1P)(f:C1G):C1P:=if A8g e f=true then A8G e f 2 ⟨#[]⟩ else e
theorem A8r{e:C1P}{f:C1G}(h:A8Z e f=true):A8J e f 1 ⟨#[]⟩=A8D e f/\true=A8Z e f:=by simp[A8D,h]
theorem A8v{e:C1P}{f:C1G}(h:A8Z e f=false):e=A8D e f/\false=A8Z e f:=by simp[A8D,h]
theorem A8s{e:C1P}{f:C1G}(h:A8g e f=true):A8G e f 2 ⟨#[]⟩=A8E e f/\true=A8g e f:=by simp[A8E,h]
theorem A8w{e:C1P}{f:C1G}(h:A8g e f=false):e=A8E e f/\false=A8g e f:=by simp[A8E,h]
theorem A8H{e:C1P}(h:HT e=true):C5 e.w=true/\AR e.p8=true/\0<=e.g/\e.g<=200/\e.m.length<=40/\e.u.length<=500/\e.w.length<=24:=by
 have h0:=h;unfold HT at h;simp only[Bool.and_eq_true,decide_eq_true_eq,GO] at h;obtain⟨h1,b,c,d,f,_⟩:=h;have a:=b;unfold C5 AW at a;simp only[Bool.and_eq_true,decide_eq_true_eq,List.length_map] at a;refine⟨b,h1,by omega,by omega,by omega,by omega,a.2.1⟩
theorem A9q{e:C1P}{f:C1G}(h1:HT e=true)(a:BI f=true)(b:K5 e.w f=false)(c:e.w.length<24)(d:e.g<200)(h:e.u.length<500):A8Z e f=true:=by simp[A8Z,h1,a,b,c,d,h]
theorem A9u{e:C1P}{f:C1G}(h1:HT e=true)(a:BI f=true)(d:¬0<GG e.w f)(h:e.w.length≠24)(i:e.g≠200)(j:e.u.length≠500):A8Z e f=true:=by
 have b:=A8H h1;have c:=cY b.1 f;refine A9q h1 a ?_ (by omega) (by omega) (by omega);rw[c.1,decide_eq_false_iff_not];omega
theorem B2F{e:C1P}{f:C1G}(h:A8Z e f=true):HT e=true:=by
 simp only[A8Z,Bool.and_eq_true] at h;exact h.1.1.1.1.1
theorem A9L{e:C1P}{f:C1G}(h:HT e=false):A8Z e f=false:=by simp[A8Z,h]
theorem A9M{e:C1P}{f:C1G}(h:BI f=false):A8Z e f=false:=by simp[A8Z,h]
theorem A9E{e:C1P}{f:C1G}(h:K5 e.w f=true):A8Z e f=false:=by simp[A8Z,h]
theorem A8l{e:C1P}{f:C1G}(h1:HT e=true)(h:0<GG e.w f):A8Z e f=false:=A9E (by
 rw[(cY (A8H h1).1 f).1,decide_eq_true_eq]
 omega)
theorem A9N{e:C1P}{f:C1G}(h:¬e.w.length<24\/¬e.g<200\/¬e.u.length<500):A8Z e f=false:=by
 rcases h with h|h|h<;>simp only[A8Z,decide_eq_false h,Bool.and_false,Bool.false_and]
theorem B0y{e:C1P}{f:C1G}(h1:HT e=true)(a:K5 e.w f=true)(b:e.u.length<500):A8g e f=true:=by simp[A8g,h1,a,b]
theorem B1P{e:C1P}{f:C1G}(h1:HT e=true)(a:GG e.w f≠0)(c:e.u.length≠500):A8g e f=true:=by
 have b:=A8H h1;exact B0y h1 (by rw[(cY b.1 f).1,decide_eq_true_eq];exact a) (by omega)
theorem A9v{e:C1P}{f:C1G}(h:HT e=false):A8g e f=false:=by simp[A8g,h]
theorem A9w{e:C1P}{f:C1G}(h:K5 e.w f=false):A8g e f=false:=by simp[A8g,h]
theorem A9e{e:C1P}{f:C1G}(h:GG e.w f=0):A8g e f=false:=by
 cases h1:HT e with
 |false=>exact A9v h1
 |true=>exact A9w (by rw[(cY (A8H h1).1 f).1,h];simp)
theorem B0K{e:C1P}{f:C1G}(h:¬e.u.length<500):A8g e f=false:=by simp only[A8g,decide_eq_false h,Bool.and_false]
theorem B2G{α:Type}(c:α->Nat)(l m:List α):AI c (l++m)=AI c l+AI c m:=by simp[AI]
end Go.Sy
