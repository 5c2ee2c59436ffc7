/-
  Matches: what a match's binding says of the conditions and of the acts.
  Conditions: those that each theorem states.
-/
import Derived.Test.YtmjmglkogcomaaaGreatDoorMat
namespace Go.Sy
open Go
def B6n{α:Type}(p:α->Bool)(s:α):List α->List α
 | []=> [s]
 |x::l=>if p x=true then s::x::l else x::B6n p s l
section
variable {α:Type} {p:α->Bool} {s:α}
theorem C0x:∀(l out:List α),l.foldl (PQ p s) (out,true)=(out++l,true)
 | [],out=>by simp
 | x::l,out=>by
  have:PQ p s (out,true) x=(out++ [x],true):=by simp[PQ]
  rw[List.foldl_cons,this,C0x l];simp
theorem C0y:∀(l out:List α),(if (l.foldl (PQ p s) (out,false)).2=true then(l.foldl (PQ p s) (out,false)).1 else(l.foldl (PQ p s) (out,false)).1++ [s])=out++B6n p s l
 | [],out=>by simp[B6n]
 | x::l,out=>by
  rw[List.foldl_cons]
  cases hx:p x with
  | true=>
   have:PQ p s (out,false) x=(out++ [s]++ [x],true):=by simp[PQ,hx]
   rw[this,C0x];simp[B6n,hx]
  | false=>
   have:PQ p s (out,false) x=(out++ [x],false):=by simp[PQ,hx]
   rw[this,C0y l];simp[B6n,hx]
theorem C0Y(l:List α):Z7 p s l=B6n p s l:=by
 have h:=C0y (p:=p) (s:=s) l [];unfold Z7 DK;rw[List.take_length];simpa using h
theorem B6Q:∀l:List α,List.Perm (B6n p s l) (s::l)
 | []=>List.Perm.refl _
 | x::l=>by
  unfold B6n
  split
  ·exact List.Perm.refl _
  ·exact((B6Q l).cons x).trans (List.Perm.swap s x l)
theorem B8J{R:α->α->Prop}(e:∀a b c,R a b->R b c->R a c)(h1:∀y,p y=true->R s y):∀{l:List α},l.Pairwise R->(∀y∈l,p y=false->R y s)->(B6n p s l).Pairwise R
 | [],_,_=>by simp[B6n]
 | x::l,hl,hn=>by
  rw[List.pairwise_cons] at hl;unfold B6n
  split
  ·rename_i hc;rw[List.pairwise_cons];refine⟨λy d=>?_,List.pairwise_cons.2 hl⟩
   rcases List.mem_cons.1 d with rfl|d
   ·exact h1 _ hc
   ·exact e _ _ _ (h1 _ hc) (hl.1 y d)
  ·rename_i hc;rw[List.pairwise_cons];refine⟨λy d=>?_,B8J e h1 hl.2 (λy d=>hn y (by simp[d]))⟩
   rcases List.mem_cons.1 ((B6Q l).mem_iff.1 d) with rfl|d
   ·exact hn x (by simp) (by simpa using hc)
   ·exact hl.1 y d
end
theorem B5c{b:List C1J}:D7 b=true↔b.length<=6/\(∀x∈b,BM x.q4=true/\BA x.q3=true)/\b.Pairwise (λx y=>JE x.q4 y.q4=true):=by
 constructor
 ·intro h;refine⟨Z6 h,λx n=>B9f h n,nN (R:=λx y:C1J=>JE x.q4 y.q4=true) (λ_ _ _ h1 e=>N8 h1 e) (λk p f d a=>?_)⟩;unfold D7 at h;simp only[Bool.and_eq_true,List.all_eq_true,List.mem_range] at h;have:=h.2 (k+1) (lS a);unfold GB at this;rw[a] at this;simp only[Nat.add_sub_cancel,d,Bool.and_eq_true] at this;simpa using this.2.2
 ·rintro⟨h1,e,g⟩;unfold D7;simp only[Bool.and_eq_true,decide_eq_true_eq,List.all_eq_true,List.mem_range];refine⟨h1,λk o=>?_⟩;obtain⟨f,a⟩:=sL o;have c:=e f (List.mem_of_getElem? a)
  by_cases h0:k=0
  ·exact dW a c.1 c.2 h0
  ·obtain⟨p,d⟩:=sL (l:=b) (i:=k-1) (by omega);exact dX a d rfl c.1 c.2 (YE g d a (by omega))
theorem B9Q:D7 []=true:=by rw[B5c];simp
theorem B7R{v:ByteArray}(h:BM v=true):BA v=false:=by
 cases ha:BA v with
 |false=>rfl
 | true=>
  unfold BM at h;simp only[Bool.and_eq_true] at h;unfold BA at ha;simp only[Bool.and_eq_true,decide_eq_true_eq,List.all_eq_true,List.mem_range] at ha;have h1:=ha.2 0 (by omega);have a:sB v 0=63:=by simpa using h.2.1
  rw[a] at h1
  cases h1
def B4u(b:List C1J)(v:ByteArray):Option ByteArray:=(b.find? (λx=>decide (x.q4=v))).map (·.q3)
theorem B5Q{b:List C1J}{v:ByteArray}(h:BM v=true):nF b v=B4u b v:=by unfold nF B4u;rw[B7R h];simp[h]
theorem B6R{b:List C1J}{v:ByteArray}(h:BA v=true):nF b v=some v:=by simp[nF,h]
theorem B5R{b:List C1J}(hb:D7 b=true){v x:ByteArray}:B4u b v=some x↔(⟨v,x⟩:C1J)∈b:=by
 have c:=(B5c.1 hb).2.2;unfold B4u;rw[Option.map_eq_some_iff]
 constructor
 ·rintro⟨p,c,rfl⟩;have h1:=List.mem_of_find?_eq_some c;have a:=List.find?_some c;simp only[decide_eq_true_eq] at a;rw[<-a];exact h1
 ·intro h
  cases hf:b.find? (λx=>decide (x.q4=v)) with
  | none=>
   rw[List.find?_eq_none] at hf;have:=hf _ h;simp at this
  | some p=>
   have h1:=List.mem_of_find?_eq_some hf;have a:=List.find?_some hf;simp only[decide_eq_true_eq] at a;refine⟨p,rfl,?_⟩;obtain⟨i,e⟩:=List.getElem?_of_mem h1;obtain⟨j,d⟩:=List.getElem?_of_mem h
   rcases Nat.lt_trichotomy i j with hl|hl|hl
   ·have:=YE c e d hl;rw[a,HQ] at this;cases this
   ·subst hl;rw[e] at d;rw[Option.some.inj d]
   ·have:=YE c d e hl;rw[a,HQ] at this;cases this
theorem B8V{b:List C1J}{v:ByteArray}(h:B4u b v=none):∀y∈b,y.q4≠v:=λy a e=>by
 unfold B4u at h;rw[Option.map_eq_none_iff,List.find?_eq_none] at h;have:=h y a;simp[e] at this
theorem B6S{b:List C1J}{v x:ByteArray}(hb:D7 b=true)(g:BM v=true)(i:BA x=true)(l:B4u b v=none)(hl:b.length≠6):D7 (Z8 b v x)=true/\(Z8 b v x).length=b.length+1/\∀p,p∈Z8 b v x↔p=⟨v,x⟩\/p∈b:=by
 have h:=B5c.1 hb;have c:=B6Q (p:=NW v) (s:=(⟨v,x⟩:C1J)) b;unfold Z8;rw[C0Y];refine⟨B5c.2 ⟨by rw[c.length_eq];simp only[List.length_cons];omega,λy a=>?_,B8J (R:=λx y:C1J=>JE x.q4 y.q4=true) (λ_ _ _ h1 n=>N8 h1 n) (λy a=>?_) h.2.2 (λy a e=>?_)⟩,by rw[c.length_eq];rfl,λq=>by rw[c.mem_iff,List.mem_cons]⟩
 ·rcases List.mem_cons.1 (c.mem_iff.1 a) with rfl|a
  ·exact⟨g,i⟩
  ·exact h.2.1 y a
 ·show JE v y.q4=true;simp only[NW,Bool.not_eq_true',Bool.or_eq_false_iff,decide_eq_false_iff_not] at a
  cases h1:JE v y.q4 with
  |true=>rfl
  |false=>exact absurd (QD a.1 h1) a.2
 ·show JE y.q4 v=true;have d:=B8V l y a;simp only[NW,Bool.not_eq_false',Bool.or_eq_true,decide_eq_true_eq] at e;exact e.resolve_right d
def B6M(b c:List C1J):Prop:=∀p∈b,p∈c
theorem B6o{b c:List C1J}(hb:D7 b=true)(hc:D7 c=true)(h:B6M b c){t x:ByteArray}(a:nF b t=some x):nF c t=some x:=by
 cases ha:BA t with
 |true=>rw[B6R ha] at*;exact a
 | false=>
  cases hv:BM t with
  |true=>rw[B5Q hv] at*;rw[B5R hb] at a;rw[B5R hc];exact h _ a
  |false=>unfold nF at a;rw[ha,hv] at a;simp at a
theorem B7t{b c:List C1J}{v x:ByteArray}(h:MW b v x=some c):D7 b=true/\BM v=true/\BA x=true/\((B4u b v=some x/\c=b)\/(B4u b v=none/\b.length≠6/\c=Z8 b v x)):=by
 unfold MW at h
 split at h
 ·rename_i hc;simp only[Bool.and_eq_true] at hc;refine⟨hc.1.1,hc.1.2,hc.2,?_⟩;unfold HU EJ at h;rw[B5Q hc.1.2] at h
  cases hv:B4u b v with
  | some y=>
   rw[hv] at h;simp at h;exact .inl ⟨by rw[h.1],h.2.symm⟩
  | none=>
   rw[hv] at h;simp at h;exact .inr ⟨rfl,h.1,h.2.symm⟩
 ·cases h
theorem B9R{b:List C1J}{v x:ByteArray}(hb:D7 b=true)(a:BM v=true)(c:BA x=true)(d:B4u b v=none)(hl:b.length≠6):MW b v x=some (Z8 b v x):=by
 unfold MW HU EJ;rw[B5Q a,d,hb,a,c];simp[hl]
theorem B7h{b:List C1J}{v x:ByteArray}(hb:D7 b=true)(a:BM v=true)(c:BA x=true)(d:B4u b v=some x):MW b v x=some b:=by
 unfold MW HU EJ;rw[B5Q a,d,hb,a,c];simp
theorem B7S{b c:List C1J}{v x:ByteArray}(h:MW b v x=some c):D7 c=true/\B6M b c/\B4u c v=some x/\∀u,u≠v->B4u c u=B4u b u:=by
 obtain⟨h1,i,l,a⟩:=B7t h
 rcases a with ⟨a,rfl⟩|⟨a,n,rfl⟩
 ·exact⟨h1,λ_ h=>h,a,λ_ _=>rfl⟩
 ·obtain⟨e,_,g⟩:=B6S h1 i l a n;refine⟨e,λp q=>(g p).2 (.inr q),(B5R e).2 ((g _).2 (.inl rfl)),λu t=>?_⟩;have key:∀y,B4u (Z8 b v x) u=some y↔B4u b u=some y:=λy=>by
   rw[B5R e,B5R h1,g]
   constructor
   ·rintro(h|h)
    ·injection h with h _;exact absurd h t
    ·exact h
   ·exact .inr
  cases d:B4u b u with
  |some y=>exact(key y).2 d
  | none=>
   cases o:B4u (Z8 b v x) u with
   |none=>rfl
   |some y=>rw[(key y).1 o] at d;cases d
theorem B9S{l:List (ByteArray × ByteArray)}:∀{b c:List C1J},l.foldl WI (some b)=some c->D7 b=true->D7 c=true/\B6M b c/\(∀q∈l,nF c q.1=some q.2)/\(∀u,(∀q∈l,q.1≠u)->B4u c u=B4u b u):=by
 induction l with
 |nil=>intro b c h hb;simp only[List.foldl_nil,Option.some.injEq] at h;subst h;exact⟨hb,λ_ h=>h,by simp,λ_ _=>rfl⟩
 | cons q l ih=>
  intro b c h hb;rw[List.foldl_cons] at h
  cases hs:WI (some b) q with
  |none=>rw[hs,X7] at h;cases h
  | some a=>
   rw[hs] at h;have key:D7 a=true/\B6M b a/\nF a q.1=some q.2/\∀u,u≠q.1->B4u a u=B4u b u:=by
    unfold WI at hs;simp only[Option.bind_some] at hs
    split at hs
    ·rename_i ha
     split at hs
     ·rename_i he;simp only[Option.some.injEq] at hs;subst hs;exact⟨hb,λ_ h=>h,by rw[B6R ha,he],λ_ _=>rfl⟩
     ·cases hs
    ·have h1:=B7S hs;have t:=B7t hs;exact⟨h1.1,h1.2.1,by rw[B5Q t.2.1];exact h1.2.2.1,h1.2.2.2⟩
   obtain⟨g,v,w,y⟩:=key;obtain⟨n,i,g3,g4⟩:=ih h g;refine⟨n,λp z=>i p (v p z),λr d=>?_,λu o=>?_⟩
   ·rcases List.mem_cons.1 d with rfl|d
    ·exact B6o g n i w
    ·exact g3 r d
   ·rw[g4 u (λq hq=>o q (by simp[hq])),y u (λe=>o q (by simp) e.symm)]
theorem B5r{p:C1H}{f:C1G}{b:List C1J}(h:U2 p f b=true):CK p=true/\BI f=true/\D7 b=true/\p.p5=f.p5/\p.a.length=f.a.length:=by
 unfold U2 at h;simp only[Bool.and_eq_true,decide_eq_true_eq] at h;exact⟨h.1.1.1.1,h.1.1.1.2,h.1.1.2,h.1.2,h.2⟩
theorem B7T{p:C1H}{f:C1G}(h:p.a.length=f.a.length):(p.a.zip f.a).take p.a.length=p.a.zip f.a:=by
 rw[List.take_of_length_le];rw[List.length_zip];omega
theorem B8K{α β:Type}{l:List α}{m:List β}(h:l.length=m.length){x:α}(b:x∈l):∃y,(x,y)∈l.zip m:=by
 obtain⟨k,a⟩:=List.getElem?_of_mem b;obtain⟨y,c⟩:=sL (l:=m) (i:=k) (by have:=lS a;omega);exact⟨y,List.mem_of_getElem? (A2c a c)⟩
theorem B7u{p:C1H}{f:C1G}{b c:List C1J}(h:U3 p f b=some c):U2 p f b=true/\(p.a.zip f.a).foldl WI (some b)=some c:=by
 unfold U3 at h
 split at h
 ·rename_i hg;refine⟨hg,?_⟩;unfold LX at h;rw[B7T (B5r hg).2.2.2.2] at h;exact h
 ·cases h
theorem B8L{p:C1H}{f:C1G}{b c:List C1J}(h:U3 p f b=some c):D7 c=true/\B6M b c/\(∀u,u∉p.a->B4u c u=B4u b u)/\(∀u∈p.a,(nF c u).isSome=true):=by
 obtain⟨v,z⟩:=B7u h;have g:=B5r v;obtain⟨t,l,o,w⟩:=B9S z g.2.2.1;refine⟨t,l,λu d=>w u (λq n e=>d (by rw[<-e];exact(List.of_mem_zip n).1)),λu d=>?_⟩;obtain⟨y,i⟩:=B8K g.2.2.2.2 d;rw[o _ i];rfl
theorem B9T{p:C1H}{f:C1G}{b c d:List C1J}(h:U3 p f b=some c)(hd:D7 d=true)(he:B6M c d):A8q p d=true/\A8L p d=f/\DC p f d=true:=by
 obtain⟨hg,hk⟩:=B7u h;have e:=B5r hg;obtain⟨g1,g2,g3,g4⟩:=B9S hk e.2.2.1;have z:∀q∈p.a.zip f.a,nF d q.1=some q.2:=λq o=>B6o g1 hd he (g3 q o)
 have hi:A8q p d=true:=by
  unfold A8q;rw[e.1,hd];simp only[Bool.true_and,List.all_eq_true];intro x v;obtain⟨y,w⟩:=B8K e.2.2.2.2 v;unfold HU;rw[z _ w];rfl
 refine⟨hi,?_,?_⟩
 ·unfold A8L;rw[if_pos hi];have:p.a.map (EJ d)=f.a:=by
   apply List.ext_getElem?
   intro i;rw[List.getElem?_map]
   by_cases hl:i<p.a.length
   ·obtain⟨x,v⟩:=sL hl;obtain⟨y,w⟩:=sL (l:=f.a) (i:=i) (by omega);rw[v,w];have:=z _ (List.mem_of_getElem? (A2c v w));simp only[Option.map_some,EJ];rw[show nF d x=some y from this];rfl
   ·rw[List.getElem?_eq_none (by omega),List.getElem?_eq_none (by omega)];rfl
  rw[this,e.2.2.2.1]
 ·have key:∀l:List (ByteArray × ByteArray),(∀q∈l,nF d q.1=some q.2)->(∀q∈l,EP q.1=true/\BA q.2=true)->l.foldl WI (some d)=some d:=λl=>by
   induction l with
   |nil=>intro _ _;rfl
   | cons q l ih=>
    intro h1 h2;rw[List.foldl_cons];have o:=h1 q (by simp);have t:=h2 q (by simp);have:WI (some d) q=some d:=by
     unfold WI;simp only[Option.bind_some]
     split
     ·rename_i ha;rw[B6R ha] at o;rw[if_pos (Option.some.inj o)]
     ·rename_i ha;have u:BM q.1=true:=by
       have:=t.1;unfold EP at this;simp only[Bool.or_eq_true] at this;exact this.resolve_left ha
      rw[B5Q u] at o;exact B7h hd u t.2 o
    rw[this];exact ih (λr hr=>h1 r (by simp[hr])) (λr hr=>h2 r (by simp[hr]))
  have hG:U2 p f d=true:=tV e.1 e.2.1 hd e.2.2.2.1 e.2.2.2.2;have n:=e.1;unfold CK at n;simp only[Bool.and_eq_true,List.all_eq_true] at n;have g:=e.2.1;unfold BI at g;simp only[Bool.and_eq_true,List.all_eq_true] at g;have:=key _ z (λq o=>⟨n.2 _ (List.of_mem_zip o).1,g.2 _ (List.of_mem_zip o).2⟩);unfold DC U3 LX;rw[if_pos hG,B7T e.2.2.2.2,this];rfl
theorem B8W{p:C1H}{f:C1G}{b d:List C1J}(hb:D7 b=true)(o:∀u∈p.a,B4u d u=B4u b u)(hl:b.length<=d.length)(h:DC p f d=true):DC p f b=true:=by
 unfold DC at h;obtain⟨e,n⟩:=Option.isSome_iff_exists.1 h;obtain⟨hg,hk⟩:=B7u n;have t:=B5r hg;have key:∀(l:List (ByteArray × ByteArray)) (b d:List C1J),(∀q∈l,q.1∈p.a)->D7 b=true->(∀u∈p.a,B4u d u=B4u b u)->b.length<=d.length->(∃e,l.foldl WI (some d)=some e)->∃c,l.foldl WI (some b)=some c:=λl=>by
  induction l with
  |nil=>intro b d _ _ _ _ _;exact⟨b,rfl⟩
  | cons q l ih=>
   intro b d hm hb o hl ⟨e,n⟩;rw[List.foldl_cons] at n⊢
   cases g:WI (some d) q with
   |none=>rw[g,X7] at n;cases n
   | some d1=>
    rw[g] at n;unfold WI at g;simp only[Option.bind_some] at g;unfold WI;simp only[Option.bind_some]
    split at g
    ·rename_i ha;rw[if_pos ha]
     split at g
     ·rename_i hq;rw[if_pos hq];simp only[Option.some.injEq] at g;subst g;exact ih b d (λr w=>hm r (by simp[w])) hb o hl ⟨e,n⟩
     ·cases g
    ·rename_i ha;rw[if_neg ha];have i:=B7t g;have hu:=o q.1 (hm q (by simp))
     rcases i.2.2.2 with ⟨v,rfl⟩|⟨v,g2,rfl⟩
     ·rw[B7h hb i.2.1 i.2.2.1 (hu▸v)];exact ih b d1 (λr w=>hm r (by simp[w])) hb o hl ⟨e,n⟩
     ·have a0:=Z6 i.1;have hn:=B9R hb i.2.1 i.2.2.1 (hu▸v) (by omega);rw[hn];have k1:=B7S hn;have k2:=B7S g;have l1:=B6S hb i.2.1 i.2.2.1 (hu▸v) (by omega);have l2:=B6S i.1 i.2.1 i.2.2.1 v g2;refine ih _ _ (λr w=>hm r (by simp[w])) k1.1 (λu y=>?_) (by omega) ⟨e,n⟩
      by_cases z:u=q.1
      ·rw[z,k1.2.2.1,k2.2.2.1]
      ·rw[k1.2.2.2 u z,k2.2.2.2 u z,o u y]
 obtain⟨c,hc⟩:=key _ b d (λq hq=>(List.of_mem_zip hq).1) hb o hl ⟨e,hk⟩;have hG:U2 p f b=true:=tV t.1 t.2.1 hb t.2.2.2.1 t.2.2.2.2;unfold DC U3 LX;rw[if_pos hG,B7T t.2.2.2.2,hc];rfl
theorem B8X{facts:List C1G}:∀{conds:List C1L} {u:C3t},u∈JO conds facts->∃ts:Nat->C3t,ts 0=⟨[],[]⟩/\ts conds.length=u/\∀k x,conds[k]?=some x->ts (k+1)∈EC x facts (ts k):=by
 intro conds;have key:∀(n:Nat) (u:C3t),n<=conds.length->u∈EN conds facts n->∃ts:Nat->C3t,ts 0=⟨[],[]⟩/\ts n=u/\∀k x,k<n->conds[k]?=some x->ts (k+1)∈EC x facts (ts k):=λn=>by
  induction n with
  | zero=>
   intro u _ a;have:u=⟨[],[]⟩:=by simpa [EN] using a
   exact⟨λ_=>⟨[],[]⟩,rfl,this.symm,λk x h=>by omega⟩
  | succ n ih=>
   intro u hn a;obtain⟨x,b⟩:=sL (l:=conds) (i:=n) (by omega);rw[<-uN b] at a;unfold LY at a;rw[List.mem_flatMap] at a;obtain⟨t,g,a⟩:=a;obtain⟨ts,h0,h1,c⟩:=ih t (by omega) g;refine⟨λk=>if k=n+1 then u else ts k,?_,by simp,λk y h d=>?_⟩
   ·simp only;rw[if_neg (by omega)];exact h0
   ·simp only
    by_cases e:k=n
    ·subst e;rw[if_pos rfl,if_neg (by omega),h1];rw[b] at d;rw[<-Option.some.inj d];exact a
    ·rw[if_neg (by omega),if_neg (by omega)];exact c k y (by omega) d
 intro u a;rw[<-NZ (Nat.le_refl _)] at a;obtain⟨ts,h0,h1,c⟩:=key conds.length u (Nat.le_refl _) a;exact⟨ts,h0,h1,λk x b=>c k x (lS b) b⟩
theorem B6H{x:C1L}{facts:List C1G}{t u:C3t}(hk:x.s≠1)(h:u∈EC x facts t):u=t/\holdB x t.f facts=true:=by
 unfold EC at h;rw[if_pos hk] at h
 split at h
 ·rename_i hh;simp only[List.mem_singleton] at h;exact⟨h,hh⟩
 ·cases h
theorem B6p{x:C1L}{facts:List C1G}{t u:C3t}(hk:x.s=1)(h:u∈EC x facts t):∃f∈facts,∃c,U3 x.p2 f t.f=some c/\u=⟨t.k++ [f],c⟩:=by
 unfold EC at h;rw[if_neg (by simp[hk]),List.mem_filterMap] at h;obtain⟨f,a,h⟩:=h;unfold HV at h;rw[Option.map_eq_some_iff] at h;obtain⟨c,b,rfl⟩:=h;exact⟨f,a,c,b,rfl⟩
theorem B6M.refl(b:List C1J):B6M b b:=λ_ h=>h
theorem B7D{α:Type} [DecidableEq α]:∀{b c:List α},b.Nodup->(∀x∈b,x∈c)->b.length<=c.length
 | [],_,_,_=>by simp
 | x::b,c,hn,h=>by
  rw[List.nodup_cons] at hn;have d:=h x (by simp);have i:=B7D (b:=b) (c:=c.erase x) hn.2 (λy a=>(List.mem_erase_of_ne (λe=>hn.1 (by rw[<-e];exact a))).2 (h y (by simp[a])));have hl:=List.length_erase_of_mem d;have g:=List.length_pos_of_mem d;rw[List.length_cons];omega
theorem B6M.len{b c:List C1J}(hb:D7 b=true)(h:B6M b c):b.length<=c.length:=by
 have a:b.Nodup:=(B5c.1 hb).2.2.imp (λ{x y} h e=>by rw[e,HQ] at h;cases h);exact B7D a h
structure Way (r:C1M) (facts:List C1G) (ts:Nat->C3t):Prop where
  bind:∀k,k<=r.q.length->D7 (ts k).f=true
  vars:∀k,k<=r.q.length->∀v,BM v=true->((B4u (ts k).f v).isSome=true↔v∈MV r k)
  step:∀k x,r.q[k]?=some x->ts (k+1)∈EC x facts (ts k)
  len:∀k,k<=r.q.length->(ts k).k.length=KZ r.q k
theorem C0Z{r:C1M}{facts:List C1G}{u:C3t}(w:u∈JO r.q facts):∃ts,Way r facts ts/\ts r.q.length=u:=by
 obtain⟨ts,h0,h1,y⟩:=B8X w;have key:∀k,k<=r.q.length->D7 (ts k).f=true/\(∀v,BM v=true->((B4u (ts k).f v).isSome=true↔v∈MV r k))/\(ts k).k.length=KZ r.q k:=λk=>by
  induction k with
  | zero=>
   intro _;rw[h0];exact⟨B9Q,λv _=>by simp[B4u,MV],by simp[KZ]⟩
  | succ k ih=>
   intro b;obtain⟨g1,t,z⟩:=ih (by omega);obtain⟨x,g⟩:=sL (l:=r.q) (i:=k) (by omega);have o:=y k x g
   by_cases e:x.s=1
   ·obtain⟨f,hf,c,hc,w⟩:=B6p e o;have n:=B8L hc;rw[w];refine⟨n.1,λv d=>?_,by rw[<-jX g e];simp[z]⟩;rw[<-A0g g e,List.mem_append,bY d]
    constructor
    ·intro h
     by_cases ha:v∈x.p2.a
     ·exact .inr ha
     ·rw[n.2.2.1 v ha] at h;exact .inl ((t v d).1 h)
    ·rintro(h|h)
     ·by_cases ha:v∈x.p2.a
      ·rw[<-B5Q d];exact n.2.2.2 v ha
      ·rw[n.2.2.1 v ha];exact(t v d).2 h
     ·rw[<-B5Q d];exact n.2.2.2 v h
   ·have o:=(B6H e o).1;rw[o,<-A0h g e,<-jY g e];exact⟨g1,t,z⟩
 exact⟨ts,⟨λk b=>(key k b).1,λk b=>(key k b).2.1,y,λk b=>(key k b).2.2⟩,h1⟩
section
variable {r:C1M} {facts:List C1G} {ts:Nat->C3t}
theorem Way.up(h:Way r facts ts){k:Nat}:∀d,k+d<=r.q.length->B6M (ts k).f (ts (k+d)).f/\(ts (k+d)).k.take (ts k).k.length=(ts k).k
 |0,_=>⟨B6M.refl _,by simp⟩
 | d+1,hd=>by
  obtain⟨g,a⟩:=h.up (k:=k) d (by omega);obtain⟨x,u⟩:=sL (l:=r.q) (i:=k+d) (by omega);have b:=h.step _ x u;rw[show k+(d+1)=k+d+1 from rfl]
  by_cases e:x.s=1
  ·obtain⟨f,v,c,o,t⟩:=B6p e b;rw[t];refine⟨λp n=>(B8L o).2.1 p (g p n),?_⟩;have hl:(ts k).k.length<=(ts (k+d)).k.length:=by
    have:=congrArg List.length a;rw[List.length_take] at this;omega
   simp only;rw[List.take_append_of_le_length hl,a]
  ·rw[(B6H e b).1];exact⟨g,a⟩
theorem Way.ext(h:Way r facts ts){k j:Nat}(hk:k<=j)(a:j<=r.q.length):B6M (ts k).f (ts j).f:=by
 have:=(h.up (k:=k) (j-k) (by omega)).1
 rwa [show k+(j-k)=j from by omega] at this
theorem Way.has(h:Way r facts ts){j:Nat}{x:C1L}(d:r.q[j]?=some x)(hk:x.s=1):A8q x.p2 (ts r.q.length).f=true/\(ts r.q.length).k[KZ r.q j]?=some (A8L x.p2 (ts r.q.length).f)/\A8L x.p2 (ts r.q.length).f∈facts/\DC x.p2 (A8L x.p2 (ts r.q.length).f) (ts r.q.length).f=true:=by
 have n:=lS d;obtain⟨f,l,c,i,g⟩:=B6p hk (h.step j x d);have e:=h.ext (k:=j+1) (j:=r.q.length) (by omega) (Nat.le_refl _);rw[g] at e;have b:=B9T i (h.bind _ (Nat.le_refl _)) e;rw[b.2.1];refine⟨b.1,?_,l,b.2.2⟩;have a:=(h.up (k:=j+1) (r.q.length-(j+1)) (by omega)).2;rw[show j+1+(r.q.length-(j+1))=r.q.length from by omega,g] at a;simp only at a;have hl:=h.len j (by omega);have h1:((ts j).k++ [f])[KZ r.q j]?=some f:=by rw[List.getElem?_append_right (by omega)];simp[hl]
 rw[<-a] at h1;rw[List.getElem?_take] at h1
 split at h1
 ·exact h1
 ·cases h1
theorem B7E(a:CR r=true){j:Nat}{x:C1L}(b:r.q[j]?=some x):BD x=true/\∀v∈A6 x,okV r (j:Int) x v=true:=by
 unfold CR at a;simp only[Bool.and_eq_true,List.all_eq_true,List.mem_range] at a;have:=a.2.2.2.2.1 j (lS b);unfold GP at this;rw[b] at this;simp only[Bool.and_eq_true,List.all_eq_true] at this;exact⟨this.1,this.2.2⟩
theorem B9q{k:Nat}{v:ByteArray}(h:v∈MV r k):∃i x,i<k/\r.q[i]?=some x/\x.s=1/\v∈AM x.p2.a:=by
 unfold MV at h;rw[List.mem_flatMap] at h;obtain⟨x,c,d⟩:=h;rw[List.mem_filter] at c;obtain⟨i,b⟩:=List.getElem?_of_mem c.1;rw[List.getElem?_take] at b
 split at b
 ·rename_i hl;exact⟨i,x,hl,b,by simpa using c.2,d⟩
 ·cases b
theorem B8M{x:C1L}{v:ByteArray}(h:v∈AM x.p2.a):v∈A6 x:=by
 unfold AM at h;unfold A6 AM;rw[List.mem_filter] at*;exact⟨List.mem_append_left _ h.1,h.2⟩
theorem Way.noms(h:Way r facts ts)(t:CR r=true){j:Nat}{x:C1L}(g:r.q[j]?=some x)(hk:x.s=2){v:ByteArray}(u:v∈x.p2.a)(c:BM v=true):B4u (ts r.q.length).f v=B4u (ts j).f v:=by
 have hj:=lS g
 cases hb:B4u (ts j).f v with
 | some y=>
  rw[B5R (h.bind j (by omega))] at hb;rw[B5R (h.bind _ (Nat.le_refl _))];exact h.ext (by omega) (Nat.le_refl _) _ hb
 | none=>
  cases hd:B4u (ts r.q.length).f v with
  |none=>rfl
  | some y=>
   exfalso;have h1:v∈MV r r.q.length:=(h.vars _ (Nat.le_refl _) v c).1 (by rw[hd];rfl);have w:v∉MV r j:=λhc=>by
    have:=(h.vars j (by omega) v c).2 hc;rw[hb] at this;cases this
   have n:v∈A6 x:=B8M ((bY c).2 u);have b:=(B7E t g).2 v n;unfold okV at b;simp only[Bool.or_eq_true,Bool.and_eq_true,decide_eq_true_eq,Bool.not_eq_true'] at b
   rcases b with b|b|b
   ·omega
   ·rw[FQ] at b;exact w b
   ·obtain⟨i,y,hi,l,d,o⟩:=B9q h1;have:true=PL r (j:Int) v:=A1j l (λe=>by
     have z:i=j:=by omega
     subst z;rw[g] at l;rw[<-Option.some.inj l,hk] at d;cases d) (B8M o)
    rw[b.2] at this;cases this
theorem C2r{p:C1H}(h:CK p=true):∀u∈p.a,EP u=true:=by
 unfold CK at h;simp only[Bool.and_eq_true,List.all_eq_true] at h;exact h.2
theorem B7F{b:List C1J}(hb:D7 b=true){u:ByteArray}(h:BM u=false):B4u b u=none:=by
 cases hv:B4u b u with
 |none=>rfl
 | some y=>
  rw[B5R hb] at hv;have:=((B5c.1 hb).2.1 _ hv).1;rw[h] at this;cases this
theorem Way.holds(h:Way r facts ts)(o:CR r=true){j:Nat}{x:C1L}(g:r.q[j]?=some x):holdB x (ts r.q.length).f facts=true:=by
 have hj:=lS g;have e:=h.bind _ (Nat.le_refl _);have l:=(B7E o g).1
 by_cases c:x.s=1
 ·obtain⟨g1,g2,g3,g4⟩:=h.has g c;unfold holdB;rw[l,e,if_pos c];simp only[Bool.true_and,decide_eq_true_eq];exact List.length_pos_of_mem (List.mem_filter.2 ⟨g3,g4⟩)
 ·have b:=(B6H c (h.step j x g)).2;have z:=h.ext (k:=j) (by omega) (Nat.le_refl _);have d:=h.bind j (by omega)
  by_cases i:x.s=2
  ·unfold holdB at b⊢;rw[l,d,if_neg c,if_pos i] at b;rw[l,e,if_neg c,if_pos i];simp only[Bool.true_and,decide_eq_true_eq] at b⊢;have n:=List.eq_nil_of_length_eq_zero b;unfold nT at n⊢;rw[List.filter_eq_nil_iff] at n;rw[List.length_eq_zero_iff,List.filter_eq_nil_iff];intro f hf hm;refine n f hf (B8W d (λu hu=>?_) (B6M.len d z) hm)
   cases hv:BM u with
   |true=>exact h.noms o g i hu hv
   |false=>rw[B7F d hv,B7F e hv]
  ·unfold holdB at b⊢;rw[l,d,if_neg c,if_neg i] at b;rw[l,e,if_neg c,if_neg i];simp only[Bool.true_and] at b⊢;have up:∀t,HU (ts j).f t=true->HU (ts r.q.length).f t=true/\EJ (ts r.q.length).f t=EJ (ts j).f t:=λt ht=>by
    unfold HU at ht;obtain⟨y,hy⟩:=Option.isSome_iff_exists.1 ht;have h2:=B6o d e z hy;unfold HU EJ;rw[hy,h2];exact⟨rfl,rfl⟩
   unfold E3 at b⊢;have a:=b;simp only[Bool.and_eq_true] at a;have v:=up _ a.1.2.1;have w:=up _ a.1.2.2;rw[d,a.1.2.1,a.1.2.2] at b;rw[e,v.1,w.1,v.2,w.2];exact b
theorem C3J(b:CR r=true){a:Action}(c:a∈r.q0):D3 a=true/\∀v∈AM a.p2.a,v∈MV r r.q.length:=by
 unfold CR at b;simp only[Bool.and_eq_true,List.all_eq_true] at b;have:=b.2.2.2.2.2.1 a c;unfold IG at this;simp only[Bool.and_eq_true,List.all_eq_true] at this;exact⟨this.1,λv d=>FQ.1 (this.2 v d)⟩
theorem C2c{p:C1H}{b:List C1J}(h:A8q p b=true):BI (A8L p b)=true:=by
 unfold A8L;rw[if_pos h];simp only[A8q,Bool.and_eq_true,List.all_eq_true] at h;obtain⟨h1,d,e⟩:=h;unfold CK at h1;simp only[Bool.and_eq_true,decide_eq_true_eq,List.all_eq_true] at h1;unfold BI;simp only[Bool.and_eq_true,decide_eq_true_eq,List.all_eq_true,List.length_map];refine⟨h1.1,λx l=>?_⟩;obtain⟨t,i,rfl⟩:=List.mem_map.1 l;have c:=e t i;unfold HU at c;obtain⟨y,a⟩:=Option.isSome_iff_exists.1 c;unfold EJ;rw[a];show BA y=true;unfold nF at a
 split at a
 ·rename_i ha;rw[<-Option.some.inj a];exact ha
 ·split at a
  ·rw[Option.map_eq_some_iff] at a;obtain⟨q,g,rfl⟩:=a;exact((B5c.1 d).2.1 q (List.mem_of_find?_eq_some g)).2
  ·cases a
theorem Way.act(h:Way r facts ts)(d:CR r=true){a:Action}(e:a∈r.q0)(hk:a.s=1\/a.s=2):A8q a.p2 (ts r.q.length).f=true:=by
 obtain⟨h1,g⟩:=C3J d e;have c:CK a.p2=true:=by
  unfold D3 at h1;rw[if_pos hk] at h1;exact h1
 unfold A8q;rw[c,h.bind _ (Nat.le_refl _)];simp only[Bool.true_and,List.all_eq_true];intro u hu;unfold HU;have b:=C2r c u hu;unfold EP at b
 cases hv:BM u with
 |true=>rw[B5Q hv];exact(h.vars _ (Nat.le_refl _) u hv).2 (g u ((bY hv).2 hu))
 | false=>
  rw[hv,Bool.or_false] at b;rw[B6R b];rfl
end
end Go.Sy
namespace Go.Sy
open Go
theorem C2s{l:List C1N}{f:C1G}(h:K5 l f=true):∃s∈l,s.j=f/\GG l f=s.q1:=by
 unfold K5 at h;obtain⟨s,a⟩:=Option.isSome_iff_exists.1 h;refine⟨s,?_,?_,by unfold GG;rw[a]⟩
 ·unfold mQ at a;exact List.mem_of_find?_eq_some a
 ·unfold mQ at a;have:=List.find?_some a;simpa using this
theorem C3K{rules:List C1M}{facts:List C1G}{m:Match}(a:m∈GE rules facts):∃r∈rules,∃ts,Way r facts ts/\m=⟨r.y,(ts r.q.length).k,(ts r.q.length).f⟩:=by
 unfold GE at a;rw[List.mem_flatMap] at a;obtain⟨r,b,a⟩:=a;unfold KL at a;rw[List.mem_map] at a;obtain⟨u,c,rfl⟩:=a;obtain⟨ts,d,e⟩:=C0Z c;exact⟨r,b,ts,d,by rw[e]⟩
theorem Way.sub{r:C1M}{facts:List C1G}{ts:Nat->C3t}(h:Way r facts ts):∀f∈(ts r.q.length).k,f∈facts:=by
 have key:∀k,k<=r.q.length->∀f∈(ts k).k,f∈facts:=λk=>by
  induction k with
  | zero=>
   intro _ f hf;have:=h.len 0 (by omega);simp only[KZ,List.take_zero,List.filter_nil,List.length_nil] at this;rw[List.eq_nil_of_length_eq_zero this] at hf;cases hf
  | succ k ih=>
   intro hk;obtain⟨x,a⟩:=sL (l:=r.q) (i:=k) (by omega);exact B8v (ih (by omega)) (h.step k x a)
 exact key _ (Nat.le_refl _)
theorem C3i{e:C1P}(h:stB e=true):∃ts,Way (stR e (c0 e)) (e.w.map C1N.j) ts/\CR (stR e (c0 e))=true/\(c0 e).v=⟨(stR e (c0 e)).y,(ts (stR e (c0 e)).q.length).k,(ts (stR e (c0 e)).q.length).f⟩/\(c0 e).q2=BJ e.w (ts (stR e (c0 e)).q.length).k/\MG e.m (c0 e).v.p7 (c0 e).q2=false/\JS e ⟨(c0 e).v.p7,(c0 e).q2⟩=true:=by
 have hc:=B3q h;obtain⟨u,m,hm,g,hf⟩:=B2K hc.1;obtain⟨r,hr,ts,i,rfl⟩:=C3K hm;have z:=A8H u;obtain⟨k,o⟩:=List.getElem?_of_mem hr;have a:=X9 z.2.1 o;have ho:(c0 e).p0=(k:Int):=by rw[g];exact a.2
 have hR:stR e (c0 e)=r:=by
  have:=hc.2.1;rw[ho,show((k:Int)).toNat=k from rfl,o] at this;exact(Option.some.inj this).symm
 rw[hR];have b:(c0 e).v=⟨r.y,(ts r.q.length).k,(ts r.q.length).f⟩:=by rw[g];rfl
 have c:(c0 e).q2=BJ e.w (ts r.q.length).k:=by rw[g];rfl
 refine⟨ts,i,a.1,b,c,by rw[b,c];exact hf,?_⟩;rw[b,c];unfold JS;have h1:BN e.p8 r.y=(k:Int):=a.2;simp only[h1];rw[show((k:Int)).toNat=k from rfl,o];simp only[Bool.and_eq_true,decide_eq_true_eq,List.all_eq_true];have hl:=i.len _ (Nat.le_refl _);refine⟨by omega,by unfold BJ;rw[List.length_map,hl];rfl,λt ht=>?_⟩;unfold BJ at ht;obtain⟨f,d,rfl⟩:=List.mem_map.1 ht;have l:=nK (i.sub f d);obtain⟨s,hs,_,n⟩:=C2s l;rw[n];have h2:=XM z.1 hs;have h3:=(B2Y.1 u).2.2.2.2.2.1 s hs;unfold GO;simp only[Bool.and_eq_true,decide_eq_true_eq];omega
theorem C3L{e:C1P}{b:Bool}(h:HT e=true):HT ⟨e.p8,e.w,e.g,e.m,b,e.u⟩=true:=by
 rw[B2Y] at h⊢;obtain⟨a,c,d,f,g,h1,i,l,n⟩:=h;exact⟨a,c,d,f,g,h1,λx o=>C2G (e:=e) rfl (Int.le_refl _) (i x o),l,n⟩
theorem C3M{e:C1P}{r:ByteArray}(h:HT e=true)(hl:e.u.length<500)(a:AN ⟨6,r,z0F⟩=true):HT (B0t e r)=true:=C3L (b:=true) (C3E (k:=6) (r:=r) (f:=z0F) h hl a)
theorem C2o{k:Int}{r:ByteArray}(hk:k=3\/k=6)(h:FK r=true):AN ⟨k,r,z0F⟩=true:=by
 unfold AN
 rcases hk with rfl|rfl<;>simp[h]
theorem C2p{k:Int}{r:ByteArray}{f:C1G}(hk:k=4\/k=5)(h:FK r=true)(a:BI f=true):AN ⟨k,r,f⟩=true:=by
 unfold AN
 rcases hk with rfl|rfl<;>simp[h,a]
theorem C2d{m:Match}(d:FK m.p7=true):∀(l:List Action) (s:C1P),(∀a∈l,a.s=1\/a.s=2->A8q a.p2 m.f=true)->HT s=true->s.u.length+l.length<=500->s.g+l.length<=200->HT (l.foldl (A8X m) s)=true
 | [],s,_,h,_,_=>h
 | a::l,s,ha,h,h1,q=>by
  rw[List.length_cons] at h1 q;have o:=ha a (by simp);have key:HT (A8X m s a)=true:=by
   unfold A8X
   split
   ·rename_i i;have e:=C2c (o (.inl i))
    split
    ·rename_i n;simp only[Bool.and_eq_true,decide_eq_true_eq,Bool.not_eq_true'] at n;exact C2l h (by omega) (C2p (.inl rfl) d e) e n.1 n.2 (by omega)
    ·exact h
   ·split
    ·rename_i i;have e:=C2c (o (.inr i))
     split
     ·exact C2b h (by omega) (C2p (.inr rfl) d e)
     ·exact h
    ·split
     ·exact C3M h (by omega) (C2o (.inr rfl) d)
     ·exact h
  have c:=Ac.act m a (Ac.refl s);exact C2d d l _ (λb t=>ha b (by simp[t])) key (by have:=c.log;omega) (by have:=c.clk1;omega)
theorem C2t{r:C1M}(h:CR r=true):FK r.y=true:=by
 unfold CR at h;simp only[Bool.and_eq_true] at h;exact h.1
theorem C3a{e:C1P}(h:stB e=true):HT (stE e)=true:=by
 obtain⟨ts,hw,u,n,e2,hf,l⟩:=C3i h;have hp:=A9C h;have o:=B3q h;have t:FK (c0 e).v.p7=true:=by rw[n];exact C2t u
 have hs:HT (stS e (c0 e))=true:=by
  have h0:=C3E (k:=3) (r:=(c0 e).v.p7) (f:=z0F) hp.1 (by omega) (C2o (.inl rfl) t);rw[B2Y] at h0⊢;obtain⟨a,c,d,f,g,h1,w,z,h4⟩:=h0;refine⟨a,c,d,by simp[stS];omega,g,h1,λx b=>?_,?_,h4⟩
  ·simp only[stS] at b
   rcases List.mem_append.1 b with b|b
   ·exact C2G (e:=wrE e 3 (c0 e).v.p7 z0F) rfl (Int.le_refl _) (w x b)
   ·simp only[List.mem_singleton] at b;rw[b];exact C2G (e:=e) rfl (Int.le_refl _) l
  ·simp only[stS];rw[List.pairwise_append];refine⟨z,by simp,λx b y q=>?_⟩;simp only[List.mem_singleton] at q;rw[q];intro hq;obtain⟨i,hi⟩:=List.getElem?_of_mem b;have:=gI hi hq.1 hq.2;rw[hf] at this;cases this
 unfold stE;rw[if_pos h];refine C2d t _ _ (λa ha hk=>?_) hs ?_ ?_
 ·rw[n];exact hw.act u ha hk
 ·have:=o.2.2;simp[stS];omega
 ·have:=o.2.2;simp only[stS];omega
theorem B7i(m:Match):∀(l:List Action) (s:C1P),∃t,(l.foldl (A8X m) s).u=s.u++t
 | [],s=>⟨[],by simp⟩
 | a::l,s=>by
  obtain⟨t,b⟩:=B7i m l (A8X m s a);have:∃u,(A8X m s a).u=s.u++u:=by
   unfold A8X
   repeat' split
   all_goals first|exact⟨_,rfl⟩|exact⟨[],by simp⟩
  obtain⟨u,c⟩:=this;exact⟨u++t,by rw[List.foldl_cons,b,c,List.append_assoc]⟩
theorem B9U{e:C1P}(h:stB e=true):∃t,(stE e).u=e.u++⟨3,(c0 e).v.p7,z0F⟩::t:=by
 obtain⟨t,a⟩:=B7i (c0 e).v (stR e (c0 e)).q0 (stS e (c0 e));refine⟨t,?_⟩;unfold stE;rw[if_pos h,a];simp[stS,List.append_assoc]
end Go.Sy
namespace Go.Sy
open Go
inductive Reach:C1P->C1P->Prop
  |refl (e:C1P):Reach e e
  |put {e f:C1P} (x:C1G):Reach (A8D e x) f->Reach e f
  |take {e f:C1P} (x:C1G):Reach (A8E e x) f->Reach e f
  |step {e f:C1P}:Reach (stE e) f->Reach e f
theorem B9r(e:C1P)(f:C1G):∃t,(A8D e f).u=e.u++t:=by
 unfold A8D;split
 ·exact⟨_,rfl⟩
 ·exact⟨[],by simp⟩
theorem B9s(e:C1P)(f:C1G):∃t,(A8E e f).u=e.u++t:=by
 unfold A8E;split
 ·exact⟨_,rfl⟩
 ·exact⟨[],by simp⟩
theorem B9V(e:C1P):∃t,(stE e).u=e.u++t:=by
 cases h:stB e with
 |true=>obtain⟨t,a⟩:=B9U h;exact⟨_,a⟩
 |false=>exact⟨[],by rw[<-(A8j h).1];simp⟩
theorem Reach.log{e f:C1P}(h:Reach e f):∃t,f.u=e.u++t:=by
 induction h with
 |refl e=>exact⟨[],by simp⟩
 |put x _ ih=>obtain⟨t,b⟩:=ih;obtain⟨u,a⟩:=B9r _ x;exact⟨u++t,by rw[b,a,List.append_assoc]⟩
 |take x _ ih=>obtain⟨t,b⟩:=ih;obtain⟨u,a⟩:=B9s _ x;exact⟨u++t,by rw[b,a,List.append_assoc]⟩
 |step _ ih=>obtain⟨t,b⟩:=ih;obtain⟨u,a⟩:=B9V _;exact⟨u++t,by rw[b,a,List.append_assoc]⟩
theorem C3O{rules:List C1M}(h:AR rules=true):HT (A8M rules)=true:=by
 have a:C5 []=true:=by rw[mem_iff];simp
 rw[B2Y];simp only[A8M,h,if_true];exact⟨trivial,a,by omega,by simp,by simp,by simp,by simp,by simp,by simp⟩
theorem C7w{e:C1P}{v:C1K}(h:HT e=true):HT (A8C e v)=true:=by
 unfold A8C
 split
 ·exact C3V h
 ·split
  ·exact C3W h
  ·split
   ·cases hb:stB e with
    |true=>exact C3a hb
    |false=>rw[<-(A8j hb).1];exact h
   ·exact h
theorem C7x(e:C1P)(v:C1K):∃t,(A8C e v).u=e.u++t:=by
 unfold A8C
 split
 ·exact B9r e _
 ·split
  ·exact B9s e _
  ·split
   ·exact B9V e
   ·exact⟨[],by simp⟩
theorem C7V{a:List C1K}:∀(k:Nat) {e f:C1P},A9G a k e=some f->HT e=true->e.u=a.take e.u.length->HT f=true/\f.u=a
 |0,_,_,h,_,_=>by cases h
 | k+1,e,f,h,he,hl=>by
  rw[A9G] at h
  split at h
  ·cases hs:B0f a e with
   |none=>rw[hs] at h;cases h
   | some y=>
    rw[hs] at h;unfold B0f at hs
    split at hs
    ·cases hs
    ·rename_i v hv
     split at hs
     ·rename_i hc;simp only[Option.some.injEq] at hs;simp only[Bool.and_eq_true,B0N,decide_eq_true_eq] at hc;obtain⟨_,c,b⟩:=hc;rw[hs] at c b;have d:HT y=true:=by rw[<-hs];exact C7w he
      obtain⟨t,g⟩:=C7x e v;rw[hs] at g;refine C7V k h d ?_;have h1:y.u.take e.u.length=e.u:=by rw[g];simp
      have i:y.u=y.u.take e.u.length++y.u.drop e.u.length:=(List.take_append_drop _ _).symm;have n:e.u.length<=y.u.length:=by rw[g,List.length_append];omega
      rw[h1,b] at i;have l:a.take y.u.length=a.take e.u.length++(a.drop e.u.length).take (y.u.length-e.u.length):=by
       rw[<-List.take_add,show e.u.length+(y.u.length-e.u.length)=y.u.length from by omega]
      rw[l,<-hl];exact i
     ·cases hs
  ·rename_i hn;simp only[Option.some.injEq] at h;subst h;refine⟨he,?_⟩;rw[List.take_of_length_le (by omega)] at hl;exact hl
theorem C8M{rules:List C1M}{a:List C1K}(h:A8e rules a=true):HT (A8N rules a)=true/\(A8N rules a).u=a:=by
 unfold A8e at h;obtain⟨f,b⟩:=Option.isSome_iff_exists.1 h;unfold A8N;rw[b];show HT f=true/\f.u=a;unfold A9H at b
 split at b
 ·rename_i hr;exact C7V _ b (C3O hr) (by simp[A8M,hr])
 ·cases b
end Go.Sy
namespace Go.Sy
open Go
end Go.Sy
namespace Go.Sy
open Go
section
variable {r:C1M} {facts:List C1G} {m:Match} {j k:Nat} {x:C1L} {f:C1G}
end
end Go.Sy
