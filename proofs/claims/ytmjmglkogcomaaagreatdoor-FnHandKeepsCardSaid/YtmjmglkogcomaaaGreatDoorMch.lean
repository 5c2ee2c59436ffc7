/-
  Matches: what a match's binding says of the conditions and of the acts.
  Conditions: those that each theorem states.
-/
import Derived.Test.YtmjmglkogcomaaaGreatDoorMat
namespace Go.Sy
open Go
def B6n{α:Type}(p:α->Bool)(s:α):List α->List α
 | []=> [s]
 |x::l=>if p x=true then s::x::l else x::B6n p s l
section
variable {α:Type} {p:α->Bool} {s:α}
theorem C0x:∀(l out:List α),l.foldl (PQ p s) (out,true)=(out++l,true)
 | [],out=>by simp
 | x::l,out=>by
  have:PQ p s (out,true) x=(out++ [x],true):=by simp[PQ]
  rw[List.foldl_cons,this,C0x l];simp
theorem C0y:∀(l out:List α),(if (l.foldl (PQ p s) (out,false)).2=true then(l.foldl (PQ p s) (out,false)).1 else(l.foldl (PQ p s) (out,false)).1++ [s])=out++B6n p s l
 | [],out=>by simp[B6n]
 | x::l,out=>by
  rw[List.foldl_cons]
  cases hx:p x with
  | true=>
   have:PQ p s (out,false) x=(out++ [s]++ [x],true):=by simp[PQ,hx]
   rw[this,C0x];simp[B6n,hx]
  | false=>
   have:PQ p s (out,false) x=(out++ [x],false):=by simp[PQ,hx]
   rw[this,C0y l];simp[B6n,hx]
theorem C0Y(l:List α):Z7 p s l=B6n p s l:=by
 have h:=C0y (p:=p) (s:=s) l [];unfold Z7 DK;rw[List.take_length];simpa using h
theorem B6Q:∀l:List α,List.Perm (B6n p s l) (s::l)
 | []=>List.Perm.refl _
 | x::l=>by
  unfold B6n
  split
  ·exact List.Perm.refl _
  ·exact((B6Q l).cons x).trans (List.Perm.swap s x l)
theorem B8J{R:α->α->Prop}(e:∀a b c,R a b->R b c->R a c)(h1:∀y,p y=true->R s y):∀{l:List α},l.Pairwise R->(∀y∈l,p y=false->R y s)->(B6n p s l).Pairwise R
 | [],_,_=>by simp[B6n]
 | x::l,hl,hn=>by
  rw[List.pairwise_cons] at hl;unfold B6n
  split
  ·rename_i hc;rw[List.pairwise_cons];refine⟨λy d=>?_,List.pairwise_cons.2 hl⟩
   rcases List.mem_cons.1 d with rfl|d
   ·exact h1 _ hc
   ·exact e _ _ _ (h1 _ hc) (hl.1 y d)
  ·rename_i hc;rw[List.pairwise_cons];refine⟨λy d=>?_,B8J e h1 hl.2 (λy d=>hn y (by simp[d]))⟩
   rcases List.mem_cons.1 ((B6Q l).mem_iff.1 d) with rfl|d
   ·exact hn x (by simp) (by simpa using hc)
   ·exact hl.1 y d
end
theorem B5c{b:List C1J}:D7 b=true↔b.length<=6/\(∀x∈b,BM x.q4=true/\BA x.q3=true)/\b.Pairwise (λx y=>JE x.q4 y.q4=true):=by
 constructor
 ·intro h;refine⟨Z6 h,λx o=>B9f h o,nN (R:=λx y:C1J=>JE x.q4 y.q4=true) (λ_ _ _ h1 e=>N8 h1 e) (λk p f d a=>?_)⟩;unfold D7 at h;simp only[Bool.and_eq_true,List.all_eq_true,List.mem_range] at h;have:=h.2 (k+1) (lS a);unfold GB at this;rw[a] at this;simp only[Nat.add_sub_cancel,d,Bool.and_eq_true] at this;simpa using this.2.2
 ·rintro⟨h1,e,g⟩;unfold D7;simp only[Bool.and_eq_true,decide_eq_true_eq,List.all_eq_true,List.mem_range];refine⟨h1,λk n=>?_⟩;obtain⟨f,a⟩:=sL n;have c:=e f (List.mem_of_getElem? a)
  by_cases h0:k=0
  ·exact dW a c.1 c.2 h0
  ·obtain⟨p,d⟩:=sL (l:=b) (i:=k-1) (by omega);exact dX a d rfl c.1 c.2 (YE g d a (by omega))
theorem B9Q:D7 []=true:=by rw[B5c];simp
theorem B7R{v:ByteArray}(h:BM v=true):BA v=false:=by
 cases ha:BA v with
 |false=>rfl
 | true=>
  unfold BM at h;simp only[Bool.and_eq_true] at h;unfold BA at ha;simp only[Bool.and_eq_true,decide_eq_true_eq,List.all_eq_true,List.mem_range] at ha;have h1:=ha.2 0 (by omega);have a:sB v 0=63:=by simpa using h.2.1
  rw[a] at h1
  cases h1
def B4u(b:List C1J)(v:ByteArray):Option ByteArray:=(b.find? (λx=>decide (x.q4=v))).map (·.q3)
theorem B5Q{b:List C1J}{v:ByteArray}(h:BM v=true):nF b v=B4u b v:=by unfold nF B4u;rw[B7R h];simp[h]
theorem B6R{b:List C1J}{v:ByteArray}(h:BA v=true):nF b v=some v:=by simp[nF,h]
theorem B5R{b:List C1J}(hb:D7 b=true){v x:ByteArray}:B4u b v=some x↔(⟨v,x⟩:C1J)∈b:=by
 have c:=(B5c.1 hb).2.2;unfold B4u;rw[Option.map_eq_some_iff]
 constructor
 ·rintro⟨p,c,rfl⟩;have h1:=List.mem_of_find?_eq_some c;have a:=List.find?_some c;simp only[decide_eq_true_eq] at a;rw[<-a];exact h1
 ·intro h
  cases hf:b.find? (λx=>decide (x.q4=v)) with
  | none=>
   rw[List.find?_eq_none] at hf;have:=hf _ h;simp at this
  | some p=>
   have h1:=List.mem_of_find?_eq_some hf;have a:=List.find?_some hf;simp only[decide_eq_true_eq] at a;refine⟨p,rfl,?_⟩;obtain⟨i,e⟩:=List.getElem?_of_mem h1;obtain⟨j,d⟩:=List.getElem?_of_mem h
   rcases Nat.lt_trichotomy i j with hl|hl|hl
   ·have:=YE c e d hl;rw[a,HQ] at this;cases this
   ·subst hl;rw[e] at d;rw[Option.some.inj d]
   ·have:=YE c d e hl;rw[a,HQ] at this;cases this
theorem B8V{b:List C1J}{v:ByteArray}(h:B4u b v=none):∀y∈b,y.q4≠v:=λy a e=>by
 unfold B4u at h;rw[Option.map_eq_none_iff,List.find?_eq_none] at h;have:=h y a;simp[e] at this
theorem B6S{b:List C1J}{v x:ByteArray}(hb:D7 b=true)(g:BM v=true)(i:BA x=true)(l:B4u b v=none)(hl:b.length≠6):D7 (Z8 b v x)=true/\(Z8 b v x).length=b.length+1/\∀p,p∈Z8 b v x↔p=⟨v,x⟩\/p∈b:=by
 have h:=B5c.1 hb;have c:=B6Q (p:=NW v) (s:=(⟨v,x⟩:C1J)) b;unfold Z8;rw[C0Y];refine⟨B5c.2 ⟨by rw[c.length_eq];simp only[List.length_cons];omega,λy a=>?_,B8J (R:=λx y:C1J=>JE x.q4 y.q4=true) (λ_ _ _ h1 n=>N8 h1 n) (λy a=>?_) h.2.2 (λy a e=>?_)⟩,by rw[c.length_eq];rfl,λq=>by rw[c.mem_iff,List.mem_cons]⟩
 ·rcases List.mem_cons.1 (c.mem_iff.1 a) with rfl|a
  ·exact⟨g,i⟩
  ·exact h.2.1 y a
 ·show JE v y.q4=true;simp only[NW,Bool.not_eq_true',Bool.or_eq_false_iff,decide_eq_false_iff_not] at a
  cases h1:JE v y.q4 with
  |true=>rfl
  |false=>exact absurd (QD a.1 h1) a.2
 ·show JE y.q4 v=true;have d:=B8V l y a;simp only[NW,Bool.not_eq_false',Bool.or_eq_true,decide_eq_true_eq] at e;exact e.resolve_right d
def B6M(b c:List C1J):Prop:=∀p∈b,p∈c
theorem B6o{b c:List C1J}(hb:D7 b=true)(hc:D7 c=true)(h:B6M b c){t x:ByteArray}(a:nF b t=some x):nF c t=some x:=by
 cases ha:BA t with
 |true=>rw[B6R ha] at*;exact a
 | false=>
  cases hv:BM t with
  |true=>rw[B5Q hv] at*;rw[B5R hb] at a;rw[B5R hc];exact h _ a
  |false=>unfold nF at a;rw[ha,hv] at a;simp at a
theorem B7t{b c:List C1J}{v x:ByteArray}(h:MW b v x=some c):D7 b=true/\BM v=true/\BA x=true/\((B4u b v=some x/\c=b)\/(B4u b v=none/\b.length≠6/\c=Z8 b v x)):=by
 unfold MW at h
 split at h
 ·rename_i hc;simp only[Bool.and_eq_true] at hc;refine⟨hc.1.1,hc.1.2,hc.2,?_⟩;unfold HU EJ at h;rw[B5Q hc.1.2] at h
  cases hv:B4u b v with
  | some y=>
   rw[hv] at h;simp at h;exact .inl ⟨by rw[h.1],h.2.symm⟩
  | none=>
   rw[hv] at h;simp at h;exact .inr ⟨rfl,h.1,h.2.symm⟩
 ·cases h
theorem B9R{b:List C1J}{v x:ByteArray}(hb:D7 b=true)(a:BM v=true)(c:BA x=true)(d:B4u b v=none)(hl:b.length≠6):MW b v x=some (Z8 b v x):=by
 unfold MW HU EJ;rw[B5Q a,d,hb,a,c];simp[hl]
theorem B7h{b:List C1J}{v x:ByteArray}(hb:D7 b=true)(a:BM v=true)(c:BA x=true)(d:B4u b v=some x):MW b v x=some b:=by
 unfold MW HU EJ;rw[B5Q a,d,hb,a,c];simp
theorem B7S{b c:List C1J}{v x:ByteArray}(h:MW b v x=some c):D7 c=true/\B6M b c/\B4u c v=some x/\∀u,u≠v->B4u c u=B4u b u:=by
 obtain⟨h1,i,l,a⟩:=B7t h
 rcases a with ⟨a,rfl⟩|⟨a,n,rfl⟩
 ·exact⟨h1,λ_ h=>h,a,λ_ _=>rfl⟩
 ·obtain⟨e,_,g⟩:=B6S h1 i l a n;refine⟨e,λp t=>(g p).2 (.inr t),(B5R e).2 ((g _).2 (.inl rfl)),λu q=>?_⟩;have key:∀y,B4u (Z8 b v x) u=some y↔B4u b u=some y:=λy=>by
   rw[B5R e,B5R h1,g]
   constructor
   ·rintro(h|h)
    ·injection h with h _;exact absurd h q
    ·exact h
   ·exact .inr
  cases d:B4u b u with
  |some y=>exact(key y).2 d
  | none=>
   cases o:B4u (Z8 b v x) u with
   |none=>rfl
   |some y=>rw[(key y).1 o] at d;cases d
theorem B9S{l:List (ByteArray × ByteArray)}:∀{b c:List C1J},l.foldl WI (some b)=some c->D7 b=true->D7 c=true/\B6M b c/\(∀q∈l,nF c q.1=some q.2)/\(∀u,(∀q∈l,q.1≠u)->B4u c u=B4u b u):=by
 induction l with
 |nil=>intro b c h hb;simp only[List.foldl_nil,Option.some.injEq] at h;subst h;exact⟨hb,λ_ h=>h,by simp,λ_ _=>rfl⟩
 | cons q l ih=>
  intro b c h hb;rw[List.foldl_cons] at h
  cases hs:WI (some b) q with
  |none=>rw[hs,X7] at h;cases h
  | some a=>
   rw[hs] at h;have key:D7 a=true/\B6M b a/\nF a q.1=some q.2/\∀u,u≠q.1->B4u a u=B4u b u:=by
    unfold WI at hs;simp only[Option.bind_some] at hs
    split at hs
    ·rename_i ha
     split at hs
     ·rename_i he;simp only[Option.some.injEq] at hs;subst hs;exact⟨hb,λ_ h=>h,by rw[B6R ha,he],λ_ _=>rfl⟩
     ·cases hs
    ·have h1:=B7S hs;have t:=B7t hs;exact⟨h1.1,h1.2.1,by rw[B5Q t.2.1];exact h1.2.2.1,h1.2.2.2⟩
   obtain⟨o,v,w,y⟩:=key;obtain⟨i,g,z,g4⟩:=ih h o;refine⟨i,λp hp=>g p (v p hp),λr d=>?_,λu n=>?_⟩
   ·rcases List.mem_cons.1 d with rfl|d
    ·exact B6o o i g w
    ·exact z r d
   ·rw[g4 u (λq hq=>n q (by simp[hq])),y u (λe=>n q (by simp) e.symm)]
theorem B5r{p:C1H}{f:C1G}{b:List C1J}(h:U2 p f b=true):CK p=true/\BI f=true/\D7 b=true/\p.p5=f.p5/\p.a.length=f.a.length:=by
 unfold U2 at h;simp only[Bool.and_eq_true,decide_eq_true_eq] at h;exact⟨h.1.1.1.1,h.1.1.1.2,h.1.1.2,h.1.2,h.2⟩
theorem B7T{p:C1H}{f:C1G}(h:p.a.length=f.a.length):(p.a.zip f.a).take p.a.length=p.a.zip f.a:=by
 rw[List.take_of_length_le];rw[List.length_zip];omega
theorem B8K{α β:Type}{l:List α}{m:List β}(h:l.length=m.length){x:α}(b:x∈l):∃y,(x,y)∈l.zip m:=by
 obtain⟨k,a⟩:=List.getElem?_of_mem b;obtain⟨y,c⟩:=sL (l:=m) (i:=k) (by have:=lS a;omega);exact⟨y,List.mem_of_getElem? (A2c a c)⟩
theorem B7u{p:C1H}{f:C1G}{b c:List C1J}(h:U3 p f b=some c):U2 p f b=true/\(p.a.zip f.a).foldl WI (some b)=some c:=by
 unfold U3 at h
 split at h
 ·rename_i hg;refine⟨hg,?_⟩;unfold LX at h;rw[B7T (B5r hg).2.2.2.2] at h;exact h
 ·cases h
theorem B8L{p:C1H}{f:C1G}{b c:List C1J}(h:U3 p f b=some c):D7 c=true/\B6M b c/\(∀u,u∉p.a->B4u c u=B4u b u)/\(∀u∈p.a,(nF c u).isSome=true):=by
 obtain⟨v,o⟩:=B7u h;have g:=B5r v;obtain⟨i,n,l,z⟩:=B9S o g.2.2.1;refine⟨i,n,λu d=>z u (λq t e=>d (by rw[<-e];exact(List.of_mem_zip t).1)),λu d=>?_⟩;obtain⟨y,w⟩:=B8K g.2.2.2.2 d;rw[l _ w];rfl
theorem B9T{p:C1H}{f:C1G}{b c d:List C1J}(h:U3 p f b=some c)(hd:D7 d=true)(he:B6M c d):A8q p d=true/\A8L p d=f/\DC p f d=true:=by
 obtain⟨hg,hk⟩:=B7u h;have n:=B5r hg;obtain⟨g1,g2,g3,g4⟩:=B9S hk n.2.2.1;have hv:∀q∈p.a.zip f.a,nF d q.1=some q.2:=λq o=>B6o g1 hd he (g3 q o)
 have hi:A8q p d=true:=by
  unfold A8q;rw[n.1,hd];simp only[Bool.true_and,List.all_eq_true];intro x w;obtain⟨y,v⟩:=B8K n.2.2.2.2 w;unfold HU;rw[hv _ v];rfl
 refine⟨hi,?_,?_⟩
 ·unfold A8L;rw[if_pos hi];have:p.a.map (EJ d)=f.a:=by
   apply List.ext_getElem?
   intro i;rw[List.getElem?_map]
   by_cases hl:i<p.a.length
   ·obtain⟨x,w⟩:=sL hl;obtain⟨y,v⟩:=sL (l:=f.a) (i:=i) (by omega);rw[w,v];have:=hv _ (List.mem_of_getElem? (A2c w v));simp only[Option.map_some,EJ];rw[show nF d x=some y from this];rfl
   ·rw[List.getElem?_eq_none (by omega),List.getElem?_eq_none (by omega)];rfl
  rw[this,n.2.2.2.1]
 ·have key:∀l:List (ByteArray × ByteArray),(∀q∈l,nF d q.1=some q.2)->(∀q∈l,EP q.1=true/\BA q.2=true)->l.foldl WI (some d)=some d:=λl=>by
   induction l with
   |nil=>intro _ _;rfl
   | cons q l ih=>
    intro h1 h2;rw[List.foldl_cons];have o:=h1 q (by simp);have t:=h2 q (by simp);have:WI (some d) q=some d:=by
     unfold WI;simp only[Option.bind_some]
     split
     ·rename_i ha;rw[B6R ha] at o;rw[if_pos (Option.some.inj o)]
     ·rename_i ha;have u:BM q.1=true:=by
       have:=t.1;unfold EP at this;simp only[Bool.or_eq_true] at this;exact this.resolve_left ha
      rw[B5Q u] at o;exact B7h hd u t.2 o
    rw[this];exact ih (λr z=>h1 r (by simp[z])) (λr z=>h2 r (by simp[z]))
  have hG:U2 p f d=true:=tV n.1 n.2.1 hd n.2.2.2.1 n.2.2.2.2;have g:=n.1;unfold CK at g;simp only[Bool.and_eq_true,List.all_eq_true] at g;have e:=n.2.1;unfold BI at e;simp only[Bool.and_eq_true,List.all_eq_true] at e;have:=key _ hv (λq o=>⟨g.2 _ (List.of_mem_zip o).1,e.2 _ (List.of_mem_zip o).2⟩);unfold DC U3 LX;rw[if_pos hG,B7T n.2.2.2.2,this];rfl
theorem B8W{p:C1H}{f:C1G}{b d:List C1J}(hb:D7 b=true)(o:∀u∈p.a,B4u d u=B4u b u)(hl:b.length<=d.length)(h:DC p f d=true):DC p f b=true:=by
 unfold DC at h;obtain⟨e,n⟩:=Option.isSome_iff_exists.1 h;obtain⟨hg,hk⟩:=B7u n;have v:=B5r hg;have key:∀(l:List (ByteArray × ByteArray)) (b d:List C1J),(∀q∈l,q.1∈p.a)->D7 b=true->(∀u∈p.a,B4u d u=B4u b u)->b.length<=d.length->(∃e,l.foldl WI (some d)=some e)->∃c,l.foldl WI (some b)=some c:=λl=>by
  induction l with
  |nil=>intro b d _ _ _ _ _;exact⟨b,rfl⟩
  | cons q l ih=>
   intro b d hm hb o hl ⟨e,n⟩;rw[List.foldl_cons] at n⊢
   cases g:WI (some d) q with
   |none=>rw[g,X7] at n;cases n
   | some d1=>
    rw[g] at n;unfold WI at g;simp only[Option.bind_some] at g;unfold WI;simp only[Option.bind_some]
    split at g
    ·rename_i ha;rw[if_pos ha]
     split at g
     ·rename_i hq;rw[if_pos hq];simp only[Option.some.injEq] at g;subst g;exact ih b d (λr t=>hm r (by simp[t])) hb o hl ⟨e,n⟩
     ·cases g
    ·rename_i ha;rw[if_neg ha];have i:=B7t g;have hu:=o q.1 (hm q (by simp))
     rcases i.2.2.2 with ⟨w,rfl⟩|⟨w,g2,rfl⟩
     ·rw[B7h hb i.2.1 i.2.2.1 (hu▸w)];exact ih b d1 (λr t=>hm r (by simp[t])) hb o hl ⟨e,n⟩
     ·have a0:=Z6 i.1;have hn:=B9R hb i.2.1 i.2.2.1 (hu▸w) (by omega);rw[hn];have k1:=B7S hn;have k2:=B7S g;have l1:=B6S hb i.2.1 i.2.2.1 (hu▸w) (by omega);have l2:=B6S i.1 i.2.1 i.2.2.1 w g2;refine ih _ _ (λr t=>hm r (by simp[t])) k1.1 (λu y=>?_) (by omega) ⟨e,n⟩
      by_cases z:u=q.1
      ·rw[z,k1.2.2.1,k2.2.2.1]
      ·rw[k1.2.2.2 u z,k2.2.2.2 u z,o u y]
 obtain⟨c,hc⟩:=key _ b d (λq hq=>(List.of_mem_zip hq).1) hb o hl ⟨e,hk⟩;have hG:U2 p f b=true:=tV v.1 v.2.1 hb v.2.2.2.1 v.2.2.2.2;unfold DC U3 LX;rw[if_pos hG,B7T v.2.2.2.2,hc];rfl
theorem B8X{facts:List C1G}:∀{conds:List C1L} {u:C3t},u∈JO conds facts->∃ts:Nat->C3t,ts 0=⟨[],[]⟩/\ts conds.length=u/\∀k x,conds[k]?=some x->ts (k+1)∈EC x facts (ts k):=by
 intro conds;have key:∀(n:Nat) (u:C3t),n<=conds.length->u∈EN conds facts n->∃ts:Nat->C3t,ts 0=⟨[],[]⟩/\ts n=u/\∀k x,k<n->conds[k]?=some x->ts (k+1)∈EC x facts (ts k):=λn=>by
  induction n with
  | zero=>
   intro u _ a;have:u=⟨[],[]⟩:=by simpa [EN] using a
   exact⟨λ_=>⟨[],[]⟩,rfl,this.symm,λk x h=>by omega⟩
  | succ n ih=>
   intro u hn a;obtain⟨x,b⟩:=sL (l:=conds) (i:=n) (by omega);rw[<-uN b] at a;unfold LY at a;rw[List.mem_flatMap] at a;obtain⟨t,g,a⟩:=a;obtain⟨ts,h0,h1,c⟩:=ih t (by omega) g;refine⟨λk=>if k=n+1 then u else ts k,?_,by simp,λk y h d=>?_⟩
   ·simp only;rw[if_neg (by omega)];exact h0
   ·simp only
    by_cases e:k=n
    ·subst e;rw[if_pos rfl,if_neg (by omega),h1];rw[b] at d;rw[<-Option.some.inj d];exact a
    ·rw[if_neg (by omega),if_neg (by omega)];exact c k y (by omega) d
 intro u a;rw[<-NZ (Nat.le_refl _)] at a;obtain⟨ts,h0,h1,c⟩:=key conds.length u (Nat.le_refl _) a;exact⟨ts,h0,h1,λk x b=>c k x (lS b) b⟩
theorem B6H{x:C1L}{facts:List C1G}{t u:C3t}(hk:x.s≠1)(h:u∈EC x facts t):u=t/\holdB x t.f facts=true:=by
 unfold EC at h;rw[if_pos hk] at h
 split at h
 ·rename_i hh;simp only[List.mem_singleton] at h;exact⟨h,hh⟩
 ·cases h
theorem B6p{x:C1L}{facts:List C1G}{t u:C3t}(hk:x.s=1)(h:u∈EC x facts t):∃f∈facts,∃c,U3 x.p2 f t.f=some c/\u=⟨t.k++ [f],c⟩:=by
 unfold EC at h;rw[if_neg (by simp[hk]),List.mem_filterMap] at h;obtain⟨f,a,h⟩:=h;unfold HV at h;rw[Option.map_eq_some_iff] at h;obtain⟨c,b,rfl⟩:=h;exact⟨f,a,c,b,rfl⟩
theorem B6M.refl(b:List C1J):B6M b b:=λ_ h=>h
theorem B7D{α:Type} [DecidableEq α]:∀{b c:List α},b.Nodup->(∀x∈b,x∈c)->b.length<=c.length
 | [],_,_,_=>by simp
 | x::b,c,hn,h=>by
  rw[List.nodup_cons] at hn;have a:=h x (by simp);have i:=B7D (b:=b) (c:=c.erase x) hn.2 (λy d=>(List.mem_erase_of_ne (λe=>hn.1 (by rw[<-e];exact d))).2 (h y (by simp[d])));have hl:=List.length_erase_of_mem a;have g:=List.length_pos_of_mem a;rw[List.length_cons];omega
theorem B6M.len{b c:List C1J}(hb:D7 b=true)(h:B6M b c):b.length<=c.length:=by
 have a:b.Nodup:=(B5c.1 hb).2.2.imp (λ{x y} h e=>by rw[e,HQ] at h;cases h);exact B7D a h
structure Way (r:C1M) (facts:List C1G) (ts:Nat->C3t):Prop where
  bind:∀k,k<=r.q.length->D7 (ts k).f=true
  vars:∀k,k<=r.q.length->∀v,BM v=true->((B4u (ts k).f v).isSome=true↔v∈MV r k)
  step:∀k x,r.q[k]?=some x->ts (k+1)∈EC x facts (ts k)
  len:∀k,k<=r.q.length->(ts k).k.length=KZ r.q k
theorem C0Z{r:C1M}{facts:List C1G}{u:C3t}(w:u∈JO r.q facts):∃ts,Way r facts ts/\ts r.q.length=u:=by
 obtain⟨ts,h0,h1,y⟩:=B8X w;have key:∀k,k<=r.q.length->D7 (ts k).f=true/\(∀v,BM v=true->((B4u (ts k).f v).isSome=true↔v∈MV r k))/\(ts k).k.length=KZ r.q k:=λk=>by
  induction k with
  | zero=>
   intro _;rw[h0];exact⟨B9Q,λv _=>by simp[B4u,MV],by simp[KZ]⟩
  | succ k ih=>
   intro b;obtain⟨g1,t,z⟩:=ih (by omega);obtain⟨x,n⟩:=sL (l:=r.q) (i:=k) (by omega);have o:=y k x n
   by_cases e:x.s=1
   ·obtain⟨f,hf,c,hc,w⟩:=B6p e o;have g:=B8L hc;rw[w];refine⟨g.1,λv d=>?_,by rw[<-jX n e];simp[z]⟩;rw[<-A0g n e,List.mem_append,bY d]
    constructor
    ·intro h
     by_cases ha:v∈x.p2.a
     ·exact .inr ha
     ·rw[g.2.2.1 v ha] at h;exact .inl ((t v d).1 h)
    ·rintro(h|h)
     ·by_cases ha:v∈x.p2.a
      ·rw[<-B5Q d];exact g.2.2.2 v ha
      ·rw[g.2.2.1 v ha];exact(t v d).2 h
     ·rw[<-B5Q d];exact g.2.2.2 v h
   ·have o:=(B6H e o).1;rw[o,<-A0h n e,<-jY n e];exact⟨g1,t,z⟩
 exact⟨ts,⟨λk b=>(key k b).1,λk b=>(key k b).2.1,y,λk b=>(key k b).2.2⟩,h1⟩
section
variable {r:C1M} {facts:List C1G} {ts:Nat->C3t}
theorem Way.up(h:Way r facts ts){k:Nat}:∀d,k+d<=r.q.length->B6M (ts k).f (ts (k+d)).f/\(ts (k+d)).k.take (ts k).k.length=(ts k).k
 |0,_=>⟨B6M.refl _,by simp⟩
 | d+1,hd=>by
  obtain⟨b,a⟩:=h.up (k:=k) d (by omega);obtain⟨x,t⟩:=sL (l:=r.q) (i:=k+d) (by omega);have g:=h.step _ x t;rw[show k+(d+1)=k+d+1 from rfl]
  by_cases e:x.s=1
  ·obtain⟨f,v,c,o,n⟩:=B6p e g;rw[n];refine⟨λp u=>(B8L o).2.1 p (b p u),?_⟩;have hl:(ts k).k.length<=(ts (k+d)).k.length:=by
    have:=congrArg List.length a;rw[List.length_take] at this;omega
   simp only;rw[List.take_append_of_le_length hl,a]
  ·rw[(B6H e g).1];exact⟨b,a⟩
theorem Way.ext(h:Way r facts ts){k j:Nat}(hk:k<=j)(a:j<=r.q.length):B6M (ts k).f (ts j).f:=by
 have:=(h.up (k:=k) (j-k) (by omega)).1
 rwa [show k+(j-k)=j from by omega] at this
theorem Way.has(h:Way r facts ts){j:Nat}{x:C1L}(d:r.q[j]?=some x)(hk:x.s=1):A8q x.p2 (ts r.q.length).f=true/\(ts r.q.length).k[KZ r.q j]?=some (A8L x.p2 (ts r.q.length).f)/\A8L x.p2 (ts r.q.length).f∈facts/\DC x.p2 (A8L x.p2 (ts r.q.length).f) (ts r.q.length).f=true:=by
 have n:=lS d;obtain⟨f,i,c,l,e⟩:=B6p hk (h.step j x d);have g:=h.ext (k:=j+1) (j:=r.q.length) (by omega) (Nat.le_refl _);rw[e] at g;have b:=B9T l (h.bind _ (Nat.le_refl _)) g;rw[b.2.1];refine⟨b.1,?_,i,b.2.2⟩;have a:=(h.up (k:=j+1) (r.q.length-(j+1)) (by omega)).2;rw[show j+1+(r.q.length-(j+1))=r.q.length from by omega,e] at a;simp only at a;have hl:=h.len j (by omega);have h1:((ts j).k++ [f])[KZ r.q j]?=some f:=by rw[List.getElem?_append_right (by omega)];simp[hl]
 rw[<-a] at h1;rw[List.getElem?_take] at h1
 split at h1
 ·exact h1
 ·cases h1
theorem B7E(a:CR r=true){j:Nat}{x:C1L}(b:r.q[j]?=some x):BD x=true/\∀v∈A6 x,okV r (j:Int) x v=true:=by
 unfold CR at a;simp only[Bool.and_eq_true,List.all_eq_true,List.mem_range] at a;have:=a.2.2.2.2.1 j (lS b);unfold GP at this;rw[b] at this;simp only[Bool.and_eq_true,List.all_eq_true] at this;exact⟨this.1,this.2.2⟩
theorem B9q{k:Nat}{v:ByteArray}(h:v∈MV r k):∃i x,i<k/\r.q[i]?=some x/\x.s=1/\v∈AM x.p2.a:=by
 unfold MV at h;rw[List.mem_flatMap] at h;obtain⟨x,c,d⟩:=h;rw[List.mem_filter] at c;obtain⟨i,b⟩:=List.getElem?_of_mem c.1;rw[List.getElem?_take] at b
 split at b
 ·rename_i hl;exact⟨i,x,hl,b,by simpa using c.2,d⟩
 ·cases b
theorem B8M{x:C1L}{v:ByteArray}(h:v∈AM x.p2.a):v∈A6 x:=by
 unfold AM at h;unfold A6 AM;rw[List.mem_filter] at*;exact⟨List.mem_append_left _ h.1,h.2⟩
theorem Way.noms(h:Way r facts ts)(t:CR r=true){j:Nat}{x:C1L}(g:r.q[j]?=some x)(hk:x.s=2){v:ByteArray}(u:v∈x.p2.a)(c:BM v=true):B4u (ts r.q.length).f v=B4u (ts j).f v:=by
 have hj:=lS g
 cases hb:B4u (ts j).f v with
 | some y=>
  rw[B5R (h.bind j (by omega))] at hb;rw[B5R (h.bind _ (Nat.le_refl _))];exact h.ext (by omega) (Nat.le_refl _) _ hb
 | none=>
  cases hd:B4u (ts r.q.length).f v with
  |none=>rfl
  | some y=>
   exfalso;have h1:v∈MV r r.q.length:=(h.vars _ (Nat.le_refl _) v c).1 (by rw[hd];rfl);have w:v∉MV r j:=λhc=>by
    have:=(h.vars j (by omega) v c).2 hc;rw[hb] at this;cases this
   have n:v∈A6 x:=B8M ((bY c).2 u);have b:=(B7E t g).2 v n;unfold okV at b;simp only[Bool.or_eq_true,Bool.and_eq_true,decide_eq_true_eq,Bool.not_eq_true'] at b
   rcases b with b|b|b
   ·omega
   ·rw[FQ] at b;exact w b
   ·obtain⟨i,y,hi,o,d,l⟩:=B9q h1;have:true=PL r (j:Int) v:=A1j o (λe=>by
     have z:i=j:=by omega
     subst z;rw[g] at o;rw[<-Option.some.inj o,hk] at d;cases d) (B8M l)
    rw[b.2] at this;cases this
theorem C2r{p:C1H}(h:CK p=true):∀u∈p.a,EP u=true:=by
 unfold CK at h;simp only[Bool.and_eq_true,List.all_eq_true] at h;exact h.2
theorem B7F{b:List C1J}(hb:D7 b=true){u:ByteArray}(h:BM u=false):B4u b u=none:=by
 cases hv:B4u b u with
 |none=>rfl
 | some y=>
  rw[B5R hb] at hv;have:=((B5c.1 hb).2.1 _ hv).1;rw[h] at this;cases this
theorem Way.holds(h:Way r facts ts)(o:CR r=true){j:Nat}{x:C1L}(g:r.q[j]?=some x):holdB x (ts r.q.length).f facts=true:=by
 have hj:=lS g;have e:=h.bind _ (Nat.le_refl _);have l:=(B7E o g).1
 by_cases c:x.s=1
 ·obtain⟨g1,g2,g3,g4⟩:=h.has g c;unfold holdB;rw[l,e,if_pos c];simp only[Bool.true_and,decide_eq_true_eq];exact List.length_pos_of_mem (List.mem_filter.2 ⟨g3,g4⟩)
 ·have b:=(B6H c (h.step j x g)).2;have he:=h.ext (k:=j) (by omega) (Nat.le_refl _);have d:=h.bind j (by omega)
  by_cases i:x.s=2
  ·unfold holdB at b⊢;rw[l,d,if_neg c,if_pos i] at b;rw[l,e,if_neg c,if_pos i];simp only[Bool.true_and,decide_eq_true_eq] at b⊢;have n:=List.eq_nil_of_length_eq_zero b;unfold nT at n⊢;rw[List.filter_eq_nil_iff] at n;rw[List.length_eq_zero_iff,List.filter_eq_nil_iff];intro f hf hm;refine n f hf (B8W d (λu hu=>?_) (B6M.len d he) hm)
   cases hv:BM u with
   |true=>exact h.noms o g i hu hv
   |false=>rw[B7F d hv,B7F e hv]
  ·unfold holdB at b⊢;rw[l,d,if_neg c,if_neg i] at b;rw[l,e,if_neg c,if_neg i];simp only[Bool.true_and] at b⊢;have up:∀t,HU (ts j).f t=true->HU (ts r.q.length).f t=true/\EJ (ts r.q.length).f t=EJ (ts j).f t:=λt ht=>by
    unfold HU at ht;obtain⟨y,z⟩:=Option.isSome_iff_exists.1 ht;have h2:=B6o d e he z;unfold HU EJ;rw[z,h2];exact⟨rfl,rfl⟩
   unfold E3 at b⊢;have a:=b;simp only[Bool.and_eq_true] at a;have v:=up _ a.1.2.1;have w:=up _ a.1.2.2;rw[d,a.1.2.1,a.1.2.2] at b;rw[e,v.1,w.1,v.2,w.2];exact b
theorem C3J(b:CR r=true){a:Action}(c:a∈r.q0):D3 a=true/\∀v∈AM a.p2.a,v∈MV r r.q.length:=by
 unfold CR at b;simp only[Bool.and_eq_true,List.all_eq_true] at b;have:=b.2.2.2.2.2.1 a c;unfold IG at this;simp only[Bool.and_eq_true,List.all_eq_true] at this;exact⟨this.1,λv d=>FQ.1 (this.2 v d)⟩
theorem C2c{p:C1H}{b:List C1J}(h:A8q p b=true):BI (A8L p b)=true:=by
 unfold A8L;rw[if_pos h];simp only[A8q,Bool.and_eq_true,List.all_eq_true] at h;obtain⟨h1,d,e⟩:=h;unfold CK at h1;simp only[Bool.and_eq_true,decide_eq_true_eq,List.all_eq_true] at h1;unfold BI;simp only[Bool.and_eq_true,decide_eq_true_eq,List.all_eq_true,List.length_map];refine⟨h1.1,λx l=>?_⟩;obtain⟨t,g,rfl⟩:=List.mem_map.1 l;have c:=e t g;unfold HU at c;obtain⟨y,a⟩:=Option.isSome_iff_exists.1 c;unfold EJ;rw[a];show BA y=true;unfold nF at a
 split at a
 ·rename_i ha;rw[<-Option.some.inj a];exact ha
 ·split at a
  ·rw[Option.map_eq_some_iff] at a;obtain⟨q,i,rfl⟩:=a;exact((B5c.1 d).2.1 q (List.mem_of_find?_eq_some i)).2
  ·cases a
theorem Way.act(h:Way r facts ts)(d:CR r=true){a:Action}(e:a∈r.q0)(hk:a.s=1\/a.s=2):A8q a.p2 (ts r.q.length).f=true:=by
 obtain⟨h1,g⟩:=C3J d e;have c:CK a.p2=true:=by
  unfold D3 at h1;rw[if_pos hk] at h1;exact h1
 unfold A8q;rw[c,h.bind _ (Nat.le_refl _)];simp only[Bool.true_and,List.all_eq_true];intro u hu;unfold HU;have b:=C2r c u hu;unfold EP at b
 cases hv:BM u with
 |true=>rw[B5Q hv];exact(h.vars _ (Nat.le_refl _) u hv).2 (g u ((bY hv).2 hu))
 | false=>
  rw[hv,Bool.or_false] at b;rw[B6R b];rfl
end
end Go.Sy
namespace Go.Sy
open Go
theorem C2s{l:List C1N}{f:C1G}(h:K5 l f=true):∃s∈l,s.j=f/\GG l f=s.q1:=by
 unfold K5 at h;obtain⟨s,a⟩:=Option.isSome_iff_exists.1 h;refine⟨s,?_,?_,by unfold GG;rw[a]⟩
 ·unfold mQ at a;exact List.mem_of_find?_eq_some a
 ·unfold mQ at a;have:=List.find?_some a;simpa using this
theorem C3K{rules:List C1M}{facts:List C1G}{m:Match}(a:m∈GE rules facts):∃r∈rules,∃ts,Way r facts ts/\m=⟨r.y,(ts r.q.length).k,(ts r.q.length).f⟩:=by
 unfold GE at a;rw[List.mem_flatMap] at a;obtain⟨r,d,a⟩:=a;unfold KL at a;rw[List.mem_map] at a;obtain⟨u,c,rfl⟩:=a;obtain⟨ts,b,e⟩:=C0Z c;exact⟨r,d,ts,b,by rw[e]⟩
theorem Way.sub{r:C1M}{facts:List C1G}{ts:Nat->C3t}(h:Way r facts ts):∀f∈(ts r.q.length).k,f∈facts:=by
 have key:∀k,k<=r.q.length->∀f∈(ts k).k,f∈facts:=λk=>by
  induction k with
  | zero=>
   intro _ f hf;have:=h.len 0 (by omega);simp only[KZ,List.take_zero,List.filter_nil,List.length_nil] at this;rw[List.eq_nil_of_length_eq_zero this] at hf;cases hf
  | succ k ih=>
   intro hk;obtain⟨x,a⟩:=sL (l:=r.q) (i:=k) (by omega);exact B8v (ih (by omega)) (h.step k x a)
 exact key _ (Nat.le_refl _)
theorem C3i{e:C1P}(h:stB e=true):∃ts,Way (stR e (c0 e)) (e.w.map C1N.j) ts/\CR (stR e (c0 e))=true/\(c0 e).v=⟨(stR e (c0 e)).y,(ts (stR e (c0 e)).q.length).k,(ts (stR e (c0 e)).q.length).f⟩/\(c0 e).q2=BJ e.w (ts (stR e (c0 e)).q.length).k/\MG e.m (c0 e).v.p7 (c0 e).q2=false/\JS e ⟨(c0 e).v.p7,(c0 e).q2⟩=true:=by
 have hc:=B3q h;obtain⟨he,m,hm,n,hf⟩:=B2K hc.1;obtain⟨r,hr,ts,g,rfl⟩:=C3K hm;have z:=A8H he;obtain⟨k,l⟩:=List.getElem?_of_mem hr;have a:=X9 z.2.1 l;have ho:(c0 e).p0=(k:Int):=by rw[n];exact a.2
 have hR:stR e (c0 e)=r:=by
  have:=hc.2.1;rw[ho,show((k:Int)).toNat=k from rfl,l] at this;exact(Option.some.inj this).symm
 rw[hR];have b:(c0 e).v=⟨r.y,(ts r.q.length).k,(ts r.q.length).f⟩:=by rw[n];rfl
 have c:(c0 e).q2=BJ e.w (ts r.q.length).k:=by rw[n];rfl
 refine⟨ts,g,a.1,b,c,by rw[b,c];exact hf,?_⟩;rw[b,c];unfold JS;have h1:BN e.p8 r.y=(k:Int):=a.2;simp only[h1];rw[show((k:Int)).toNat=k from rfl,l];simp only[Bool.and_eq_true,decide_eq_true_eq,List.all_eq_true];have hl:=g.len _ (Nat.le_refl _);refine⟨by omega,by unfold BJ;rw[List.length_map,hl];rfl,λt ht=>?_⟩;unfold BJ at ht;obtain⟨f,d,rfl⟩:=List.mem_map.1 ht;have i:=nK (g.sub f d);obtain⟨s,u,_,o⟩:=C2s i;rw[o];have h2:=XM z.1 u;have h3:=(B2Y.1 he).2.2.2.2.2.1 s u;unfold GO;simp only[Bool.and_eq_true,decide_eq_true_eq];omega
theorem C3L{e:C1P}{b:Bool}(h:HT e=true):HT ⟨e.p8,e.w,e.g,e.m,b,e.u⟩=true:=by
 rw[B2Y] at h⊢;obtain⟨a,c,d,f,g,h1,i,l,n⟩:=h;exact⟨a,c,d,f,g,h1,λx o=>C2G (e:=e) rfl (Int.le_refl _) (i x o),l,n⟩
theorem C3M{e:C1P}{r:ByteArray}(h:HT e=true)(hl:e.u.length<500)(a:AN ⟨6,r,z0F⟩=true):HT (B0t e r)=true:=C3L (b:=true) (C3E (k:=6) (r:=r) (f:=z0F) h hl a)
theorem C2o{k:Int}{r:ByteArray}(hk:k=3\/k=6)(h:FK r=true):AN ⟨k,r,z0F⟩=true:=by
 unfold AN
 rcases hk with rfl|rfl<;>simp[h]
theorem C2p{k:Int}{r:ByteArray}{f:C1G}(hk:k=4\/k=5)(h:FK r=true)(a:BI f=true):AN ⟨k,r,f⟩=true:=by
 unfold AN
 rcases hk with rfl|rfl<;>simp[h,a]
theorem C2d{m:Match}(d:FK m.p7=true):∀(l:List Action) (s:C1P),(∀a∈l,a.s=1\/a.s=2->A8q a.p2 m.f=true)->HT s=true->s.u.length+l.length<=500->s.g+l.length<=200->HT (l.foldl (A8X m) s)=true
 | [],s,_,h,_,_=>h
 | a::l,s,ha,h,h1,q=>by
  rw[List.length_cons] at h1 q;have o:=ha a (by simp);have key:HT (A8X m s a)=true:=by
   unfold A8X
   split
   ·rename_i i;have e:=C2c (o (.inl i))
    split
    ·rename_i n;simp only[Bool.and_eq_true,decide_eq_true_eq,Bool.not_eq_true'] at n;exact C2l h (by omega) (C2p (.inl rfl) d e) e n.1 n.2 (by omega)
    ·exact h
   ·split
    ·rename_i i;have e:=C2c (o (.inr i))
     split
     ·exact C2b h (by omega) (C2p (.inr rfl) d e)
     ·exact h
    ·split
     ·exact C3M h (by omega) (C2o (.inr rfl) d)
     ·exact h
  have c:=Ac.act m a (Ac.refl s);exact C2d d l _ (λb t=>ha b (by simp[t])) key (by have:=c.log;omega) (by have:=c.clk1;omega)
theorem C2t{r:C1M}(h:CR r=true):FK r.y=true:=by
 unfold CR at h;simp only[Bool.and_eq_true] at h;exact h.1
theorem C3a{e:C1P}(h:stB e=true):HT (stE e)=true:=by
 obtain⟨ts,hw,q,n,e2,hf,l⟩:=C3i h;have hp:=A9C h;have u:=B3q h;have t:FK (c0 e).v.p7=true:=by rw[n];exact C2t q
 have hs:HT (stS e (c0 e))=true:=by
  have h0:=C3E (k:=3) (r:=(c0 e).v.p7) (f:=z0F) hp.1 (by omega) (C2o (.inl rfl) t);rw[B2Y] at h0⊢;obtain⟨a,c,d,f,g,h1,w,z,h4⟩:=h0;refine⟨a,c,d,by simp[stS];omega,g,h1,λx b=>?_,?_,h4⟩
  ·simp only[stS] at b
   rcases List.mem_append.1 b with b|b
   ·exact C2G (e:=wrE e 3 (c0 e).v.p7 z0F) rfl (Int.le_refl _) (w x b)
   ·simp only[List.mem_singleton] at b;rw[b];exact C2G (e:=e) rfl (Int.le_refl _) l
  ·simp only[stS];rw[List.pairwise_append];refine⟨z,by simp,λx b y o=>?_⟩;simp only[List.mem_singleton] at o;rw[o];intro hq;obtain⟨i,hi⟩:=List.getElem?_of_mem b;have:=gI hi hq.1 hq.2;rw[hf] at this;cases this
 unfold stE;rw[if_pos h];refine C2d t _ _ (λa ha hk=>?_) hs ?_ ?_
 ·rw[n];exact hw.act q ha hk
 ·have:=u.2.2;simp[stS];omega
 ·have:=u.2.2;simp only[stS];omega
theorem B7i(m:Match):∀(l:List Action) (s:C1P),∃t,(l.foldl (A8X m) s).u=s.u++t
 | [],s=>⟨[],by simp⟩
 | a::l,s=>by
  obtain⟨t,c⟩:=B7i m l (A8X m s a);have:∃u,(A8X m s a).u=s.u++u:=by
   unfold A8X
   repeat' split
   all_goals first|exact⟨_,rfl⟩|exact⟨[],by simp⟩
  obtain⟨u,b⟩:=this;exact⟨u++t,by rw[List.foldl_cons,c,b,List.append_assoc]⟩
theorem B9U{e:C1P}(h:stB e=true):∃t,(stE e).u=e.u++⟨3,(c0 e).v.p7,z0F⟩::t:=by
 obtain⟨t,a⟩:=B7i (c0 e).v (stR e (c0 e)).q0 (stS e (c0 e));refine⟨t,?_⟩;unfold stE;rw[if_pos h,a];simp[stS,List.append_assoc]
end Go.Sy
namespace Go.Sy
open Go
inductive Reach:C1P->C1P->Prop
  |refl (e:C1P):Reach e e
  |put {e f:C1P} (x:C1G):Reach (A8D e x) f->Reach e f
  |take {e f:C1P} (x:C1G):Reach (A8E e x) f->Reach e f
  |step {e f:C1P}:Reach (stE e) f->Reach e f
theorem B9r(e:C1P)(f:C1G):∃t,(A8D e f).u=e.u++t:=by
 unfold A8D;split
 ·exact⟨_,rfl⟩
 ·exact⟨[],by simp⟩
theorem B9s(e:C1P)(f:C1G):∃t,(A8E e f).u=e.u++t:=by
 unfold A8E;split
 ·exact⟨_,rfl⟩
 ·exact⟨[],by simp⟩
theorem B9V(e:C1P):∃t,(stE e).u=e.u++t:=by
 cases h:stB e with
 |true=>obtain⟨t,a⟩:=B9U h;exact⟨_,a⟩
 |false=>exact⟨[],by rw[<-(A8j h).1];simp⟩
theorem Reach.log{e f:C1P}(h:Reach e f):∃t,f.u=e.u++t:=by
 induction h with
 |refl e=>exact⟨[],by simp⟩
 |put x _ ih=>obtain⟨t,a⟩:=ih;obtain⟨u,b⟩:=B9r _ x;exact⟨u++t,by rw[a,b,List.append_assoc]⟩
 |take x _ ih=>obtain⟨t,a⟩:=ih;obtain⟨u,b⟩:=B9s _ x;exact⟨u++t,by rw[a,b,List.append_assoc]⟩
 |step _ ih=>obtain⟨t,a⟩:=ih;obtain⟨u,b⟩:=B9V _;exact⟨u++t,by rw[a,b,List.append_assoc]⟩
theorem C3O{rules:List C1M}(h:AR rules=true):HT (A8M rules)=true:=by
 have a:C5 []=true:=by rw[mem_iff];simp
 rw[B2Y];simp only[A8M,h,if_true];exact⟨trivial,a,by omega,by simp,by simp,by simp,by simp,by simp,by simp⟩
end Go.Sy
namespace Go.Sy
open Go
theorem C7T{e:C1P}{f:C1G}(h:A8Z e f=true):K5 (A8D e f).w f=true/\GG (A8D e f).w f=e.g+1/\(A8D e f).g=e.g+1:=by
 have l:HT e=true/\K5 e.w f=false:=by
  simp only[A8Z,Bool.and_eq_true,decide_eq_true_eq,Bool.not_eq_true'] at h;exact⟨h.1.1.1.1.1,h.1.1.1.2⟩
 rw[<-(A8r h).1];have i:(A8J e f 1 ⟨#[]⟩).w=B1Q f ⟨f,e.g+1⟩ e.w:=A9W _ _ _;have d:K5 (A8J e f 1 ⟨#[]⟩).w f=true:=by
  rw[i,B2J];exact⟨⟨f,e.g+1⟩,(A8u _ _ _).mem_iff.2 (by simp),rfl⟩
 refine⟨d,?_,rfl⟩;obtain⟨s,a,b,c⟩:=C2s d;rw[c];rw[i] at a
 rcases List.mem_cons.1 ((A8u _ _ _).mem_iff.1 a) with rfl|a
 ·rfl
 ·exact absurd b (C3C l.2 s a)
theorem C7k{l:List C1N}{f:C1G}(h:∀x∈l,x.j≠f):drL l f=l:=by
 unfold drL;rw[List.filter_eq_self];intro x hx;simp[h x hx]
theorem C7U{f:C1G}{s:C1N}(a:s.j=f):∀{l:List C1N},(∀x∈l,x.j≠f)->drL (B1Q f s l) f=l
 | [],_=>by simp[B1Q,drL,a]
 | x::l,h=>by
  have c:=h x (by simp);have hl:∀y∈l,y.j≠f:=λy b=>h y (by simp[b])
  unfold B1Q
  split
  ·have:=C7k h;unfold drL at this⊢;rw[List.filter_cons,if_neg (by simp[a])];exact this
  ·have:=C7U a hl;unfold drL at this⊢;rw[List.filter_cons,if_pos (by simp[c]),this]
theorem C7j{e:C1P}{f:C1G}(h:A8Z e f=true)(hl:(A8D e f).u.length≠500):A8g (A8D e f) f=true/\(A8E (A8D e f) f).w=e.w/\(A8E (A8D e f) f).g=(A8D e f).g/\HT (A8E (A8D e f) f)=true:=by
 have d:HT e=true/\K5 e.w f=false:=by
  simp only[A8Z,Bool.and_eq_true,decide_eq_true_eq,Bool.not_eq_true'] at h;exact⟨h.1.1.1.1.1,h.1.1.1.2⟩
 have b:=C3V (f:=f) d.1;have c:=(A8H b).2.2.2.2.2.1;have a:A8g (A8D e f) f=true:=by
  unfold A8g;rw[b,(C7T h).1];simp;omega
 refine⟨a,?_,?_,C3W b⟩
 ·rw[<-(A8s a).1];show drL (A8D e f).w f=e.w;rw[<-(A8r h).1];show drL (B1Y f ⟨f,e.g+1⟩ e.w) f=e.w;rw[A9W];exact C7U (f:=f) (s:=⟨f,e.g+1⟩) rfl (C3C d.2)
 ·rw[<-(A8s a).1];rfl
theorem C4P{e:C1P}{f:C1G}(hl:e.u.length=500):A8g e f=false:=by
 unfold A8g;rw[decide_eq_false (by omega)];simp
end Go.Sy
namespace Go.Sy
open Go
section
variable {r:C1M} {facts:List C1G} {m:Match} {j k:Nat} {x:C1L} {f:C1G}
end
end Go.Sy
