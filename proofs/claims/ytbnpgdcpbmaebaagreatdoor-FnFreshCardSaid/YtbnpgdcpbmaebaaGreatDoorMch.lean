/-
  Matches: what a match's binding says of the conditions and of the acts.
  Conditions: those that each theorem states.
-/
import Derived.Test.YtbnpgdcpbmaebaaGreatDoorMat
namespace Go.Sy
open Go
def B6n{α:Type}(p:α->Bool)(s:α):List α->List α
 | []=> [s]
 |x::l=>if p x=true then s::x::l else x::B6n p s l
section
variable {α:Type} {p:α->Bool} {s:α}
theorem C0x:∀(l out:List α),l.foldl (PQ p s) (out,true)=(out++l,true)
 | [],out=>by simp
 | x::l,out=>by
  have:PQ p s (out,true) x=(out++ [x],true):=by simp[PQ]
  rw[List.foldl_cons,this,C0x l];simp
theorem C0y:∀(l out:List α),(if (l.foldl (PQ p s) (out,false)).2=true then(l.foldl (PQ p s) (out,false)).1 else(l.foldl (PQ p s) (out,false)).1++ [s])=out++B6n p s l
 | [],out=>by simp[B6n]
 | x::l,out=>by
  rw[List.foldl_cons]
  cases hx:p x with
  | true=>
   have:PQ p s (out,false) x=(out++ [s]++ [x],true):=by simp[PQ,hx]
   rw[this,C0x];simp[B6n,hx]
  | false=>
   have:PQ p s (out,false) x=(out++ [x],false):=by simp[PQ,hx]
   rw[this,C0y l];simp[B6n,hx]
theorem C0Y(l:List α):Z7 p s l=B6n p s l:=by
 have h:=C0y (p:=p) (s:=s) l [];unfold Z7 DK;rw[List.take_length];simpa using h
theorem B6Q:∀l:List α,List.Perm (B6n p s l) (s::l)
 | []=>List.Perm.refl _
 | x::l=>by
  unfold B6n
  split
  ·exact List.Perm.refl _
  ·exact((B6Q l).cons x).trans (List.Perm.swap s x l)
theorem B8J{R:α->α->Prop}(d:∀a b c,R a b->R b c->R a c)(h1:∀y,p y=true->R s y):∀{l:List α},l.Pairwise R->(∀y∈l,p y=false->R y s)->(B6n p s l).Pairwise R
 | [],_,_=>by simp[B6n]
 | x::l,hl,hn=>by
  rw[List.pairwise_cons] at hl;unfold B6n
  split
  ·rename_i hc;rw[List.pairwise_cons];refine⟨λy hy=>?_,List.pairwise_cons.2 hl⟩
   rcases List.mem_cons.1 hy with rfl|hy
   ·exact h1 _ hc
   ·exact d _ _ _ (h1 _ hc) (hl.1 y hy)
  ·rename_i hc;rw[List.pairwise_cons];refine⟨λy hy=>?_,B8J d h1 hl.2 (λy hy=>hn y (by simp[hy]))⟩
   rcases List.mem_cons.1 ((B6Q l).mem_iff.1 hy) with rfl|hy
   ·exact hn x (by simp) (by simpa using hc)
   ·exact hl.1 y hy
end
theorem B5c{b:List Pair}:D7 b=true↔b.length<=6/\(∀x∈b,BM x.Var=true/\BA x.Value=true)/\b.Pairwise (λx y=>JE x.Var y.Var=true):=by
 constructor
 ·intro h;refine⟨Z6 h,λx hx=>B9f h hx,nN (R:=λx y:Pair=>JE x.Var y.Var=true) (λ_ _ _ h1 c=>N8 h1 c) (λk p f hp hf=>?_)⟩;unfold D7 at h;simp only[Bool.and_eq_true,List.all_eq_true,List.mem_range] at h;have:=h.2 (k+1) (lS hf);unfold GB at this;rw[hf] at this;simp only[Nat.add_sub_cancel,hp,Bool.and_eq_true] at this;simpa using this.2.2
 ·rintro⟨h1,c,d⟩;unfold D7;simp only[Bool.and_eq_true,decide_eq_true_eq,List.all_eq_true,List.mem_range];refine⟨h1,λk hk=>?_⟩;obtain⟨f,hf⟩:=sL hk;have a:=c f (List.mem_of_getElem? hf)
  by_cases h0:k=0
  ·exact dW hf a.1 a.2 h0
  ·obtain⟨p,hp⟩:=sL (l:=b) (i:=k-1) (by omega);exact dX hf hp rfl a.1 a.2 (YE d hp hf (by omega))
theorem B7R{v:ByteArray}(h:BM v=true):BA v=false:=by
 cases ha:BA v with
 |false=>rfl
 | true=>
  unfold BM at h;simp only[Bool.and_eq_true] at h;unfold BA at ha;simp only[Bool.and_eq_true,decide_eq_true_eq,List.all_eq_true,List.mem_range] at ha;have h1:=ha.2 0 (by omega);have a:sB v 0=63:=by simpa using h.2.1
  rw[a] at h1
  cases h1
def B4u(b:List Pair)(v:ByteArray):Option ByteArray:=(b.find? (λx=>decide (x.Var=v))).map (·.Value)
theorem B5Q{b:List Pair}{v:ByteArray}(h:BM v=true):nF b v=B4u b v:=by unfold nF B4u;rw[B7R h];simp[h]
theorem B6R{b:List Pair}{v:ByteArray}(h:BA v=true):nF b v=some v:=by simp[nF,h]
theorem B5R{b:List Pair}(hb:D7 b=true){v x:ByteArray}:B4u b v=some x↔(⟨v,x⟩:Pair)∈b:=by
 have hp:=(B5c.1 hb).2.2;unfold B4u;rw[Option.map_eq_some_iff]
 constructor
 ·rintro⟨p,hp,rfl⟩;have h1:=List.mem_of_find?_eq_some hp;have a:=List.find?_some hp;simp only[decide_eq_true_eq] at a;rw[<-a];exact h1
 ·intro h
  cases hf:b.find? (λx=>decide (x.Var=v)) with
  | none=>
   rw[List.find?_eq_none] at hf;have:=hf _ h;simp at this
  | some p=>
   have h1:=List.mem_of_find?_eq_some hf;have a:=List.find?_some hf;simp only[decide_eq_true_eq] at a;refine⟨p,rfl,?_⟩;obtain⟨i,hi⟩:=List.getElem?_of_mem h1;obtain⟨j,hj⟩:=List.getElem?_of_mem h
   rcases Nat.lt_trichotomy i j with hl|hl|hl
   ·have:=YE hp hi hj hl;rw[a,HQ] at this;cases this
   ·subst hl;rw[hi] at hj;rw[Option.some.inj hj]
   ·have:=YE hp hj hi hl;rw[a,HQ] at this;cases this
theorem B8V{b:List Pair}{v:ByteArray}(h:B4u b v=none):∀y∈b,y.Var≠v:=λy hy e=>by
 unfold B4u at h;rw[Option.map_eq_none_iff,List.find?_eq_none] at h;have:=h y hy;simp[e] at this
theorem B6S{b:List Pair}{v x:ByteArray}(hb:D7 b=true)(a:BM v=true)(c:BA x=true)(d:B4u b v=none)(hl:b.length≠6):D7 (Z8 b v x)=true/\(Z8 b v x).length=b.length+1/\∀p,p∈Z8 b v x↔p=⟨v,x⟩\/p∈b:=by
 have h:=B5c.1 hb;have hp:=B6Q (p:=NW v) (s:=(⟨v,x⟩:Pair)) b;unfold Z8;rw[C0Y];refine⟨B5c.2 ⟨by rw[hp.length_eq];simp only[List.length_cons];omega,λy hy=>?_,B8J (R:=λx y:Pair=>JE x.Var y.Var=true) (λ_ _ _ h1 e=>N8 h1 e) (λy hy=>?_) h.2.2 (λy hy hc=>?_)⟩,by rw[hp.length_eq];rfl,λq=>by rw[hp.mem_iff,List.mem_cons]⟩
 ·rcases List.mem_cons.1 (hp.mem_iff.1 hy) with rfl|hy
  ·exact⟨a,c⟩
  ·exact h.2.1 y hy
 ·show JE v y.Var=true;simp only[NW,Bool.not_eq_true',Bool.or_eq_false_iff,decide_eq_false_iff_not] at hy
  cases h1:JE v y.Var with
  |true=>rfl
  |false=>exact absurd (QD hy.1 h1) hy.2
 ·show JE y.Var v=true;have hne:=B8V d y hy;simp only[NW,Bool.not_eq_false',Bool.or_eq_true,decide_eq_true_eq] at hc;exact hc.resolve_right hne
def B6M(b c:List Pair):Prop:=∀p∈b,p∈c
theorem B6o{b c:List Pair}(hb:D7 b=true)(hc:D7 c=true)(h:B6M b c){t x:ByteArray}(a:nF b t=some x):nF c t=some x:=by
 cases ha:BA t with
 |true=>rw[B6R ha] at*;exact a
 | false=>
  cases hv:BM t with
  |true=>rw[B5Q hv] at*;rw[B5R hb] at a;rw[B5R hc];exact h _ a
  |false=>unfold nF at a;rw[ha,hv] at a;simp at a
theorem B7t{b c:List Pair}{v x:ByteArray}(h:MW b v x=some c):D7 b=true/\BM v=true/\BA x=true/\((B4u b v=some x/\c=b)\/(B4u b v=none/\b.length≠6/\c=Z8 b v x)):=by
 unfold MW at h
 split at h
 ·rename_i hc;simp only[Bool.and_eq_true] at hc;refine⟨hc.1.1,hc.1.2,hc.2,?_⟩;unfold HU EJ at h;rw[B5Q hc.1.2] at h
  cases hv:B4u b v with
  | some y=>
   rw[hv] at h;simp at h;exact .inl ⟨by rw[h.1],h.2.symm⟩
  | none=>
   rw[hv] at h;simp at h;exact .inr ⟨rfl,h.1,h.2.symm⟩
 ·cases h
theorem B9R{b:List Pair}{v x:ByteArray}(hb:D7 b=true)(a:BM v=true)(c:BA x=true)(d:B4u b v=none)(hl:b.length≠6):MW b v x=some (Z8 b v x):=by
 unfold MW HU EJ;rw[B5Q a,d,hb,a,c];simp[hl]
theorem B7h{b:List Pair}{v x:ByteArray}(hb:D7 b=true)(a:BM v=true)(c:BA x=true)(d:B4u b v=some x):MW b v x=some b:=by
 unfold MW HU EJ;rw[B5Q a,d,hb,a,c];simp
theorem B7S{b c:List Pair}{v x:ByteArray}(h:MW b v x=some c):D7 c=true/\B6M b c/\B4u c v=some x/\∀u,u≠v->B4u c u=B4u b u:=by
 obtain⟨h1,e,g,a⟩:=B7t h
 rcases a with ⟨a,rfl⟩|⟨a,i,rfl⟩
 ·exact⟨h1,λ_ h=>h,a,λ_ _=>rfl⟩
 ·obtain⟨g1,_,g3⟩:=B6S h1 e g a i;refine⟨g1,λp hp=>(g3 p).2 (.inr hp),(B5R g1).2 ((g3 _).2 (.inl rfl)),λu hu=>?_⟩;have key:∀y,B4u (Z8 b v x) u=some y↔B4u b u=some y:=λy=>by
   rw[B5R g1,B5R h1,g3]
   constructor
   ·rintro(h|h)
    ·injection h with h _;exact absurd h hu
    ·exact h
   ·exact .inr
  cases d:B4u b u with
  |some y=>exact(key y).2 d
  | none=>
   cases l:B4u (Z8 b v x) u with
   |none=>rfl
   |some y=>rw[(key y).1 l] at d;cases d
theorem B9S{l:List (ByteArray × ByteArray)}:∀{b c:List Pair},l.foldl WI (some b)=some c->D7 b=true->D7 c=true/\B6M b c/\(∀q∈l,nF c q.1=some q.2)/\(∀u,(∀q∈l,q.1≠u)->B4u c u=B4u b u):=by
 induction l with
 |nil=>intro b c h hb;simp only[List.foldl_nil,Option.some.injEq] at h;subst h;exact⟨hb,λ_ h=>h,by simp,λ_ _=>rfl⟩
 | cons q l ih=>
  intro b c h hb;rw[List.foldl_cons] at h
  cases hs:WI (some b) q with
  |none=>rw[hs,X7] at h;cases h
  | some a=>
   rw[hs] at h;have key:D7 a=true/\B6M b a/\nF a q.1=some q.2/\∀u,u≠q.1->B4u a u=B4u b u:=by
    unfold WI at hs;simp only[Option.bind_some] at hs
    split at hs
    ·rename_i ha
     split at hs
     ·rename_i he;simp only[Option.some.injEq] at hs;subst hs;exact⟨hb,λ_ h=>h,by rw[B6R ha,he],λ_ _=>rfl⟩
     ·cases hs
    ·have h1:=B7S hs;have d:=B7t hs;exact⟨h1.1,h1.2.1,by rw[B5Q d.2.1];exact h1.2.2.1,h1.2.2.2⟩
   obtain⟨k1,g,i,n⟩:=key;obtain⟨g1,g2,g3,g4⟩:=ih h k1;refine⟨g1,λp hp=>g2 p (g p hp),λr hr=>?_,λu hu=>?_⟩
   ·rcases List.mem_cons.1 hr with rfl|hr
    ·exact B6o k1 g1 g2 i
    ·exact g3 r hr
   ·rw[g4 u (λq hq=>hu q (by simp[hq])),n u (λe=>hu q (by simp) e.symm)]
theorem B5r{p:Pattern}{f:Fact}{b:List Pair}(h:U2 p f b=true):CK p=true/\BI f=true/\D7 b=true/\p.Rel=f.Rel/\p.Args.length=f.Args.length:=by
 unfold U2 at h;simp only[Bool.and_eq_true,decide_eq_true_eq] at h;exact⟨h.1.1.1.1,h.1.1.1.2,h.1.1.2,h.1.2,h.2⟩
theorem B7T{p:Pattern}{f:Fact}(h:p.Args.length=f.Args.length):(p.Args.zip f.Args).take p.Args.length=p.Args.zip f.Args:=by
 rw[List.take_of_length_le];rw[List.length_zip];omega
theorem B8K{α β:Type}{l:List α}{m:List β}(h:l.length=m.length){x:α}(a:x∈l):∃y,(x,y)∈l.zip m:=by
 obtain⟨k,hk⟩:=List.getElem?_of_mem a;obtain⟨y,hy⟩:=sL (l:=m) (i:=k) (by have:=lS hk;omega);exact⟨y,List.mem_of_getElem? (A2c hk hy)⟩
theorem B7u{p:Pattern}{f:Fact}{b c:List Pair}(h:U3 p f b=some c):U2 p f b=true/\(p.Args.zip f.Args).foldl WI (some b)=some c:=by
 unfold U3 at h
 split at h
 ·rename_i hg;refine⟨hg,?_⟩;unfold LX at h;rw[B7T (B5r hg).2.2.2.2] at h;exact h
 ·cases h
theorem B8L{p:Pattern}{f:Fact}{b c:List Pair}(h:U3 p f b=some c):D7 c=true/\B6M b c/\(∀u,u∉p.Args->B4u c u=B4u b u)/\(∀u∈p.Args,(nF c u).isSome=true):=by
 obtain⟨hg,hk⟩:=B7u h;have hp:=B5r hg;obtain⟨g1,g2,g3,g4⟩:=B9S hk hp.2.2.1;refine⟨g1,g2,λu hu=>g4 u (λq hq e=>hu (by rw[<-e];exact(List.of_mem_zip hq).1)),λu hu=>?_⟩;obtain⟨y,hy⟩:=B8K hp.2.2.2.2 hu;rw[g3 _ hy];rfl
theorem B9T{p:Pattern}{f:Fact}{b c d:List Pair}(h:U3 p f b=some c)(hd:D7 d=true)(g:B6M c d):A8q p d=true/\A8L p d=f/\DC p f d=true:=by
 obtain⟨hg,hk⟩:=B7u h;have hp:=B5r hg;obtain⟨g1,g2,g3,g4⟩:=B9S hk hp.2.2.1;have hv:∀q∈p.Args.zip f.Args,nF d q.1=some q.2:=λq hq=>B6o g1 hd g (g3 q hq)
 have hi:A8q p d=true:=by
  unfold A8q;rw[hp.1,hd];simp only[Bool.true_and,List.all_eq_true];intro x hx;obtain⟨y,hy⟩:=B8K hp.2.2.2.2 hx;unfold HU;rw[hv _ hy];rfl
 refine⟨hi,?_,?_⟩
 ·unfold A8L;rw[if_pos hi];have:p.Args.map (EJ d)=f.Args:=by
   apply List.ext_getElem?
   intro i;rw[List.getElem?_map]
   by_cases hl:i<p.Args.length
   ·obtain⟨x,hx⟩:=sL hl;obtain⟨y,hy⟩:=sL (l:=f.Args) (i:=i) (by omega);rw[hx,hy];have:=hv _ (List.mem_of_getElem? (A2c hx hy));simp only[Option.map_some,EJ];rw[show nF d x=some y from this];rfl
   ·rw[List.getElem?_eq_none (by omega),List.getElem?_eq_none (by omega)];rfl
  rw[this,hp.2.2.2.1]
 ·have key:∀l:List (ByteArray × ByteArray),(∀q∈l,nF d q.1=some q.2)->(∀q∈l,EP q.1=true/\BA q.2=true)->l.foldl WI (some d)=some d:=λl=>by
   induction l with
   |nil=>intro _ _;rfl
   | cons q l ih=>
    intro h1 e;rw[List.foldl_cons];have hq:=h1 q (by simp);have a:=e q (by simp);have:WI (some d) q=some d:=by
     unfold WI;simp only[Option.bind_some]
     split
     ·rename_i ha;rw[B6R ha] at hq;rw[if_pos (Option.some.inj hq)]
     ·rename_i ha;have hvv:BM q.1=true:=by
       have:=a.1;unfold EP at this;simp only[Bool.or_eq_true] at this;exact this.resolve_left ha
      rw[B5Q hvv] at hq;exact B7h hd hvv a.2 hq
    rw[this];exact ih (λr hr=>h1 r (by simp[hr])) (λr hr=>e r (by simp[hr]))
  have hG:U2 p f d=true:=tV hp.1 hp.2.1 hd hp.2.2.2.1 hp.2.2.2.2;have hpat:=hp.1;unfold CK at hpat;simp only[Bool.and_eq_true,List.all_eq_true] at hpat;have hfac:=hp.2.1;unfold BI at hfac;simp only[Bool.and_eq_true,List.all_eq_true] at hfac;have:=key _ hv (λq hq=>⟨hpat.2 _ (List.of_mem_zip hq).1,hfac.2 _ (List.of_mem_zip hq).2⟩);unfold DC U3 LX;rw[if_pos hG,B7T hp.2.2.2.2,this];rfl
theorem B8W{p:Pattern}{f:Fact}{b d:List Pair}(hb:D7 b=true)(g:∀u∈p.Args,B4u d u=B4u b u)(hl:b.length<=d.length)(h:DC p f d=true):DC p f b=true:=by
 unfold DC at h;obtain⟨e,he⟩:=Option.isSome_iff_exists.1 h;obtain⟨hg,hk⟩:=B7u he;have hp:=B5r hg;have key:∀(l:List (ByteArray × ByteArray)) (b d:List Pair),(∀q∈l,q.1∈p.Args)->D7 b=true->(∀u∈p.Args,B4u d u=B4u b u)->b.length<=d.length->(∃e,l.foldl WI (some d)=some e)->∃c,l.foldl WI (some b)=some c:=λl=>by
  induction l with
  |nil=>intro b d _ _ _ _ _;exact⟨b,rfl⟩
  | cons q l ih=>
   intro b d hm hb g hl ⟨e,he⟩;rw[List.foldl_cons] at he⊢
   cases a:WI (some d) q with
   |none=>rw[a,X7] at he;cases he
   | some d1=>
    rw[a] at he;unfold WI at a;simp only[Option.bind_some] at a;unfold WI;simp only[Option.bind_some]
    split at a
    ·rename_i ha;rw[if_pos ha]
     split at a
     ·rename_i hq;rw[if_pos hq];simp only[Option.some.injEq] at a;subst a;exact ih b d (λr hr=>hm r (by simp[hr])) hb g hl ⟨e,he⟩
     ·cases a
    ·rename_i ha;rw[if_neg ha];have hy:=B7t a;have hu:=g q.1 (hm q (by simp))
     rcases hy.2.2.2 with ⟨g1,rfl⟩|⟨g1,g2,rfl⟩
     ·rw[B7h hb hy.2.1 hy.2.2.1 (hu▸g1)];exact ih b d1 (λr hr=>hm r (by simp[hr])) hb g hl ⟨e,he⟩
     ·have hbl:=Z6 hy.1;have hn:=B9R hb hy.2.1 hy.2.2.1 (hu▸g1) (by omega);rw[hn];have k1:=B7S hn;have o:=B7S a;have t:=B6S hb hy.2.1 hy.2.2.1 (hu▸g1) (by omega);have v:=B6S hy.1 hy.2.1 hy.2.2.1 g1 g2;refine ih _ _ (λr hr=>hm r (by simp[hr])) k1.1 (λu i=>?_) (by omega) ⟨e,he⟩
      by_cases n:u=q.1
      ·rw[n,k1.2.2.1,o.2.2.1]
      ·rw[k1.2.2.2 u n,o.2.2.2 u n,g u i]
 obtain⟨c,hc⟩:=key _ b d (λq hq=>(List.of_mem_zip hq).1) hb g hl ⟨e,hk⟩;have hG:U2 p f b=true:=tV hp.1 hp.2.1 hb hp.2.2.2.1 hp.2.2.2.2;unfold DC U3 LX;rw[if_pos hG,B7T hp.2.2.2.2,hc];rfl
theorem B6H{x:Cond}{facts:List Fact}{t u:Token}(hk:x.Kind≠1)(h:u∈EC x facts t):u=t/\holdB x t.Binding facts=true:=by
 unfold EC at h;rw[if_pos hk] at h
 split at h
 ·rename_i hh;simp only[List.mem_singleton] at h;exact⟨h,hh⟩
 ·cases h
theorem B6p{x:Cond}{facts:List Fact}{t u:Token}(hk:x.Kind=1)(h:u∈EC x facts t):∃f∈facts,∃c,U3 x.Pattern f t.Binding=some c/\u=⟨t.Facts++ [f],c⟩:=by
 unfold EC at h;rw[if_neg (by simp[hk]),List.mem_filterMap] at h;obtain⟨f,hf,h⟩:=h;unfold HV at h;rw[Option.map_eq_some_iff] at h;obtain⟨c,hc,rfl⟩:=h;exact⟨f,hf,c,hc,rfl⟩
theorem B6M.refl(b:List Pair):B6M b b:=λ_ h=>h
theorem B7D{α:Type} [DecidableEq α]:∀{b c:List α},b.Nodup->(∀x∈b,x∈c)->b.length<=c.length
 | [],_,_,_=>by simp
 | x::b,c,hn,h=>by
  rw[List.nodup_cons] at hn;have hx:=h x (by simp);have ih:=B7D (b:=b) (c:=c.erase x) hn.2 (λy hy=>(List.mem_erase_of_ne (λe=>hn.1 (by rw[<-e];exact hy))).2 (h y (by simp[hy])));have hl:=List.length_erase_of_mem hx;have hp:=List.length_pos_of_mem hx;rw[List.length_cons];omega
theorem B6M.len{b c:List Pair}(hb:D7 b=true)(h:B6M b c):b.length<=c.length:=by
 have hn:b.Nodup:=(B5c.1 hb).2.2.imp (λ{x y} h e=>by rw[e,HQ] at h;cases h);exact B7D hn h
structure Way (r:Rule) (facts:List Fact) (ts:Nat->Token):Prop where
  bind:∀k,k<=r.If.length->D7 (ts k).Binding=true
  vars:∀k,k<=r.If.length->∀v,BM v=true->((B4u (ts k).Binding v).isSome=true↔v∈MV r k)
  step:∀k x,r.If[k]?=some x->ts (k+1)∈EC x facts (ts k)
  len:∀k,k<=r.If.length->(ts k).Facts.length=KZ r.If k
section
variable {r:Rule} {facts:List Fact} {ts:Nat->Token}
theorem Way.up(h:Way r facts ts){k:Nat}:∀d,k+d<=r.If.length->B6M (ts k).Binding (ts (k+d)).Binding/\(ts (k+d)).Facts.take (ts k).Facts.length=(ts k).Facts
 |0,_=>⟨B6M.refl _,by simp⟩
 | d+1,hd=>by
  obtain⟨g1,g2⟩:=h.up (k:=k) d (by omega);obtain⟨x,hx⟩:=sL (l:=r.If) (i:=k+d) (by omega);have hs:=h.step _ x hx;rw[show k+(d+1)=k+d+1 from rfl]
  by_cases e:x.Kind=1
  ·obtain⟨f,hf,c,hc,hu⟩:=B6p e hs;rw[hu];refine⟨λp hp=>(B8L hc).2.1 p (g1 p hp),?_⟩;have hl:(ts k).Facts.length<=(ts (k+d)).Facts.length:=by
    have:=congrArg List.length g2;rw[List.length_take] at this;omega
   simp only;rw[List.take_append_of_le_length hl,g2]
  ·rw[(B6H e hs).1];exact⟨g1,g2⟩
theorem Way.ext(h:Way r facts ts){k j:Nat}(hk:k<=j)(a:j<=r.If.length):B6M (ts k).Binding (ts j).Binding:=by
 have:=(h.up (k:=k) (j-k) (by omega)).1
 rwa [show k+(j-k)=j from by omega] at this
theorem Way.has(h:Way r facts ts){j:Nat}{x:Cond}(a:r.If[j]?=some x)(hk:x.Kind=1):A8q x.Pattern (ts r.If.length).Binding=true/\(ts r.If.length).Facts[KZ r.If j]?=some (A8L x.Pattern (ts r.If.length).Binding)/\A8L x.Pattern (ts r.If.length).Binding∈facts/\DC x.Pattern (A8L x.Pattern (ts r.If.length).Binding) (ts r.If.length).Binding=true:=by
 have hj:=lS a;obtain⟨f,hf,c,hc,hu⟩:=B6p hk (h.step j x a);have he:=h.ext (k:=j+1) (j:=r.If.length) (by omega) (Nat.le_refl _);rw[hu] at he;have hi:=B9T hc (h.bind _ (Nat.le_refl _)) he;rw[hi.2.1];refine⟨hi.1,?_,hf,hi.2.2⟩;have hup:=(h.up (k:=j+1) (r.If.length-(j+1)) (by omega)).2;rw[show j+1+(r.If.length-(j+1))=r.If.length from by omega,hu] at hup;simp only at hup;have hl:=h.len j (by omega);have h1:((ts j).Facts++ [f])[KZ r.If j]?=some f:=by rw[List.getElem?_append_right (by omega)];simp[hl]
 rw[<-hup] at h1;rw[List.getElem?_take] at h1
 split at h1
 ·exact h1
 ·cases h1
theorem B7E(a:CR r=true){j:Nat}{x:Cond}(b:r.If[j]?=some x):BD x=true/\∀v∈A6 x,okV r (j:Int) x v=true:=by
 unfold CR at a;simp only[Bool.and_eq_true,List.all_eq_true,List.mem_range] at a;have:=a.2.2.2.2.1 j (lS b);unfold GP at this;rw[b] at this;simp only[Bool.and_eq_true,List.all_eq_true] at this;exact⟨this.1,this.2.2⟩
theorem B9q{k:Nat}{v:ByteArray}(h:v∈MV r k):∃i x,i<k/\r.If[i]?=some x/\x.Kind=1/\v∈AM x.Pattern.Args:=by
 unfold MV at h;rw[List.mem_flatMap] at h;obtain⟨x,hx,hv⟩:=h;rw[List.mem_filter] at hx;obtain⟨i,hi⟩:=List.getElem?_of_mem hx.1;rw[List.getElem?_take] at hi
 split at hi
 ·rename_i hl;exact⟨i,x,hl,hi,by simpa using hx.2,hv⟩
 ·cases hi
theorem B8M{x:Cond}{v:ByteArray}(h:v∈AM x.Pattern.Args):v∈A6 x:=by
 unfold AM at h;unfold A6 AM;rw[List.mem_filter] at*;exact⟨List.mem_append_left _ h.1,h.2⟩
theorem Way.noms(h:Way r facts ts)(d:CR r=true){j:Nat}{x:Cond}(c:r.If[j]?=some x)(hk:x.Kind=2){v:ByteArray}(g:v∈x.Pattern.Args)(a:BM v=true):B4u (ts r.If.length).Binding v=B4u (ts j).Binding v:=by
 have hj:=lS c
 cases hb:B4u (ts j).Binding v with
 | some y=>
  rw[B5R (h.bind j (by omega))] at hb;rw[B5R (h.bind _ (Nat.le_refl _))];exact h.ext (by omega) (Nat.le_refl _) _ hb
 | none=>
  cases hd:B4u (ts r.If.length).Binding v with
  |none=>rfl
  | some y=>
   exfalso;have h1:v∈MV r r.If.length:=(h.vars _ (Nat.le_refl _) v a).1 (by rw[hd];rfl);have l:v∉MV r j:=λhc=>by
    have:=(h.vars j (by omega) v a).2 hc;rw[hb] at this;cases this
   have hcv:v∈A6 x:=B8M ((bY a).2 g);have ho:=(B7E d c).2 v hcv;unfold okV at ho;simp only[Bool.or_eq_true,Bool.and_eq_true,decide_eq_true_eq,Bool.not_eq_true'] at ho
   rcases ho with ho|ho|ho
   ·omega
   ·rw[FQ] at ho;exact l ho
   ·obtain⟨i,y,hi,hy,b,hvy⟩:=B9q h1;have:true=PL r (j:Int) v:=A1j hy (λe=>by
     have n:i=j:=by omega
     subst n;rw[c] at hy;rw[<-Option.some.inj hy,hk] at b;cases b) (B8M hvy)
    rw[ho.2] at this;cases this
theorem B7F{b:List Pair}(hb:D7 b=true){u:ByteArray}(h:BM u=false):B4u b u=none:=by
 cases hv:B4u b u with
 |none=>rfl
 | some y=>
  rw[B5R hb] at hv;have:=((B5c.1 hb).2.1 _ hv).1;rw[h] at this;cases this
theorem Way.holds(h:Way r facts ts)(e:CR r=true){j:Nat}{x:Cond}(c:r.If[j]?=some x):holdB x (ts r.If.length).Binding facts=true:=by
 have hj:=lS c;have hd:=h.bind _ (Nat.le_refl _);have hc:=(B7E e c).1
 by_cases b:x.Kind=1
 ·obtain⟨g1,g2,g3,g4⟩:=h.has c b;unfold holdB;rw[hc,hd,if_pos b];simp only[Bool.true_and,decide_eq_true_eq];exact List.length_pos_of_mem (List.mem_filter.2 ⟨g3,g4⟩)
 ·have hh:=(B6H b (h.step j x c)).2;have he:=h.ext (k:=j) (by omega) (Nat.le_refl _);have hb:=h.bind j (by omega)
  by_cases d:x.Kind=2
  ·unfold holdB at hh⊢;rw[hc,hb,if_neg b,if_pos d] at hh;rw[hc,hd,if_neg b,if_pos d];simp only[Bool.true_and,decide_eq_true_eq] at hh⊢;have hn:=List.eq_nil_of_length_eq_zero hh;unfold nT at hn⊢;rw[List.filter_eq_nil_iff] at hn;rw[List.length_eq_zero_iff,List.filter_eq_nil_iff];intro f hf hm;refine hn f hf (B8W hb (λu hu=>?_) (B6M.len hb he) hm)
   cases hv:BM u with
   |true=>exact h.noms e c d hu hv
   |false=>rw[B7F hb hv,B7F hd hv]
  ·unfold holdB at hh⊢;rw[hc,hb,if_neg b,if_neg d] at hh;rw[hc,hd,if_neg b,if_neg d];simp only[Bool.true_and] at hh⊢;have up:∀t,HU (ts j).Binding t=true->HU (ts r.If.length).Binding t=true/\EJ (ts r.If.length).Binding t=EJ (ts j).Binding t:=λt ht=>by
    unfold HU at ht;obtain⟨y,hy⟩:=Option.isSome_iff_exists.1 ht;have l:=B6o hb hd he hy;unfold HU EJ;rw[hy,l];exact⟨rfl,rfl⟩
   unfold E3 at hh⊢;have a:=hh;simp only[Bool.and_eq_true] at a;have g:=up _ a.1.2.1;have i:=up _ a.1.2.2;rw[hb,a.1.2.1,a.1.2.2] at hh;rw[hd,g.1,i.1,g.2,i.2];exact hh
end
end Go.Sy
namespace Go.Sy
open Go
theorem Way.sub{r:Rule}{facts:List Fact}{ts:Nat->Token}(h:Way r facts ts):∀f∈(ts r.If.length).Facts,f∈facts:=by
 have key:∀k,k<=r.If.length->∀f∈(ts k).Facts,f∈facts:=λk=>by
  induction k with
  | zero=>
   intro _ f hf;have:=h.len 0 (by omega);simp only[KZ,List.take_zero,List.filter_nil,List.length_nil] at this;rw[List.eq_nil_of_length_eq_zero this] at hf;cases hf
  | succ k ih=>
   intro hk;obtain⟨x,hx⟩:=sL (l:=r.If) (i:=k) (by omega);exact B8v (ih (by omega)) (h.step k x hx)
 exact key _ (Nat.le_refl _)
theorem B7i(m:Match):∀(l:List Action) (s:Engine),∃t,(l.foldl (A8X m) s).Log=s.Log++t
 | [],s=>⟨[],by simp⟩
 | a::l,s=>by
  obtain⟨t,ht⟩:=B7i m l (A8X m s a);have:∃u,(A8X m s a).Log=s.Log++u:=by
   unfold A8X
   repeat' split
   all_goals first|exact⟨_,rfl⟩|exact⟨[],by simp⟩
  obtain⟨u,hu⟩:=this;exact⟨u++t,by rw[List.foldl_cons,ht,hu,List.append_assoc]⟩
theorem B9U{e:Engine}(h:stB e=true):∃t,(stE e).Log=e.Log++⟨3,(c0 e).Match.Rule,z0F⟩::t:=by
 obtain⟨t,ht⟩:=B7i (c0 e).Match (stR e (c0 e)).Then (stS e (c0 e));refine⟨t,?_⟩;unfold stE;rw[if_pos h,ht];simp[stS,List.append_assoc]
end Go.Sy
namespace Go.Sy
open Go
inductive Reach:Engine->Engine->Prop
  |refl (e:Engine):Reach e e
  |put {e f:Engine} (x:Fact):Reach (A8D e x) f->Reach e f
  |take {e f:Engine} (x:Fact):Reach (A8E e x) f->Reach e f
  |step {e f:Engine}:Reach (stE e) f->Reach e f
theorem B9r(e:Engine)(f:Fact):∃t,(A8D e f).Log=e.Log++t:=by
 unfold A8D;split
 ·exact⟨_,rfl⟩
 ·exact⟨[],by simp⟩
theorem B9s(e:Engine)(f:Fact):∃t,(A8E e f).Log=e.Log++t:=by
 unfold A8E;split
 ·exact⟨_,rfl⟩
 ·exact⟨[],by simp⟩
theorem B9V(e:Engine):∃t,(stE e).Log=e.Log++t:=by
 cases h:stB e with
 |true=>obtain⟨t,ht⟩:=B9U h;exact⟨_,ht⟩
 |false=>exact⟨[],by rw[<-(A8j h).1];simp⟩
theorem Reach.log{e f:Engine}(h:Reach e f):∃t,f.Log=e.Log++t:=by
 induction h with
 |refl e=>exact⟨[],by simp⟩
 |put x _ ih=>obtain⟨t,ht⟩:=ih;obtain⟨u,hu⟩:=B9r _ x;exact⟨u++t,by rw[ht,hu,List.append_assoc]⟩
 |take x _ ih=>obtain⟨t,ht⟩:=ih;obtain⟨u,hu⟩:=B9s _ x;exact⟨u++t,by rw[ht,hu,List.append_assoc]⟩
 |step _ ih=>obtain⟨t,ht⟩:=ih;obtain⟨u,hu⟩:=B9V _;exact⟨u++t,by rw[ht,hu,List.append_assoc]⟩
end Go.Sy
namespace Go.Sy
open Go
def C1d(rules:List Rule)(l:List Stamp)(fired:List Firing)(ms:List Match):Nat:=(ms.filter (λm=>MG fired m.Rule (BJ l m.Facts))).length
theorem C3y(rules:List Rule)(l:List Stamp)(fired:List Firing):∀ms:List Match,(ms.filterMap (FH rules l fired)).length+C1d rules l fired ms=ms.length
 | []=>rfl
 | m::ms=>by
  have ih:=C3y rules l fired ms;unfold C1d at ih⊢;rw[List.filterMap_cons,List.filter_cons,List.length_cons]
  cases hf:MG fired m.Rule (BJ l m.Facts) with
  | true=>
   have:FH rules l fired m=none:=by simp[FH,hf]
   rw[this];simp;omega
  | false=>
   have:FH rules l fired m=some (NP rules l m):=by simp[FH,hf]
   rw[this];simp;omega
theorem C4G{rules:List Rule}{l:List Stamp}{fired:List Firing}(h1:AR rules=true)(a:C5 l=true):(EK rules l fired).length+C1d rules l fired (GE rules (l.map Stamp.Fact))=(GE rules (l.map Stamp.Fact)).length:=by
 have:(EK rules l fired).length=((GE rules (l.map Stamp.Fact)).filterMap (FH rules l fired)).length:=by
  unfold EK;rw[h1,a];simp only[Bool.and_self,if_true];exact RR _
 rw[this];exact C3y rules l fired _
end Go.Sy
namespace Go.Sy
open Go
section
variable {r:Rule} {facts:List Fact} {m:Match} {j k:Nat} {x:Cond} {f:Fact}
end
end Go.Sy
