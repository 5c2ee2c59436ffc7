/-
  Rows that are sorted by exchanges: what the parts of the library's quicksort leave, as plain facts on lists.
  Conditions: those that each theorem states.
-/
import Derived.Test.YtmjmglkogcomaaaGreatDoorSort
import Derived.Laws.MathBits
import Derived.Lib.BitFns
import Derived.Test.YtmjmglkogcomaaaGreatDoorCho
section
namespace Go.Sy
section
variable {α:Type} [Inhabited α] {lt:α->α->Bool}
theorem Chg.get{d e:List α}{a b:Nat}(h:Chg d e a b){φ:α->Prop}(hp:∀p,a<=p->p<b->φ (A d p)):∀p,a<=p->p<b->φ (A e p):=λp h1 c=>by
 obtain⟨j,f,g,i⟩:=h.mem p h1 c;rw[i];exact hp j f g
def Sft(lt:α->α->Bool)(d:List α)(f lo hi r:Nat):Prop:=(∀p c,lo<=p->p≠r->(c=2*p+1\/c=2*p+2)->c<hi->lt (A d (f+p)) (A d (f+c))=false)/\
 (∀p c,lo<=p->(r=2*p+1\/r=2*p+2)->(c=2*r+1\/c=2*r+2)->c<hi->lt (A d (f+p)) (A d (f+c))=false)
theorem Sft.at{d:List α}{f lo a r b:Nat}(h:Sft lt d f lo a r)(e:r=b):Sft lt d f lo a b:=e▸h
end
end Go.Sy
namespace Go.Sy
open Go Go.RowKit
structure Srx {α:Type} [Inhabited α] (P:Program) (C:List α->Chunk) (lt:α->α->Bool) (d0:List α) (dv:Value) (w0:World):Prop where
  len:∀(Hs:List Chunk) (w:World) (d:List α),List.Perm d d0->St w0 (C d::Hs) w->∃f C4k,AA P f=true/\(callMethod dv "Len" #[]).run P w=(callFunc f C4k).run P w/\Calls P f C4k w (λe w'=>e= .returned (.int .i64 (d0.length:Int))/\St w0 (C d::Hs) w')
  less:∀(Hs:List Chunk) (w:World) (d:List α) (i j:Nat),List.Perm d d0->i<d0.length->j<d0.length->St w0 (C d::Hs) w->
    ∃f C4k,AA P f=true/\(callMethod dv "Less" #[Value.int .i64 (i:Int),Value.int .i64 (j:Int)]).run P w=(callFunc f C4k).run P w/\Calls P f C4k w (λe w'=>e= .returned (.bool (lt (A d i) (A d j)))/\St w0 (C d::Hs) w')
  swap:∀(Hs:List Chunk) (w:World) (d:List α) (i j:Nat),List.Perm d d0->i<d0.length->j<d0.length->St w0 (C d::Hs) w->
    ∃f C4k,AA P f=true/\(callMethod dv "Swap" #[Value.int .i64 (i:Int),Value.int .i64 (j:Int)]).run P w=(callFunc f C4k).run P w/\Calls P f C4k w (λe w'=>e= .returned (.tuple #[])/\St w0 (C (swp d i j)::Hs) w')
section
variable {P:Program} {N:Nat} {w0:World} {H:List Chunk} {L:Fm} {Q:Exit->Act->World->Prop} {o:Oper} {dd:Nat} {K:Act->World->Prop}
section
variable {α:Type} [Inhabited α] {C:List α->Chunk} {lt:α->α->Bool} {d0 d:List α} {dv:Value}
end
end
end Go.Sy
namespace Go.Sy
open Go Go.RowKit
def SZ(P:Program)(t:TypeId)(nm:String):Option (Array FieldStep × Option (FuncId × Bool)):=(P.info? t).bind λi=>(i.methods.find? (λm=>m.name==nm)).map λm=>(m.path,m.func)
section
variable {P:Program} {N:Nat} {w0:World} {H:List Chunk} {L:Fm} {Q:Exit->Act->World->Prop} {o:Oper} {dd:Nat} {K:Act->World->Prop} {c1 c2:Chunk}
end
abbrev tG(x y:Int):Bool:=decide (y<x)
theorem gQ:Ordr tG:=⟨λx y h=>by simp only[tG,decide_eq_true_eq,decide_eq_false_iff_not] at*;omega,λx y z h1 a=>by simp only[tG,decide_eq_false_iff_not] at*;omega⟩
def AP(l:List Int):List Int:=MR tG l
theorem QP(l:List Int):(AP l).length=l.length:=XT _ l
theorem mX(l:List Int):[]=AP (l.take 0):=rfl
theorem tH{l:List Int}{i k:Nat}{x:Int}(h:l[i]?=some x)(hk:k<=i)(b:∀p,k<=p->∀y,(AP (l.take i))[p]?=some y->y<x)(a:k=0\/∃y,(IF (AP (l.take i)) x k)[k-1]?=some y/\¬y<x):(IF (AP (l.take i)) x k).set k x=AP (l.take (i+1)):=by
 have hl:(AP (l.take i)).length=i:=by rw[QP,List.length_take];have:=lS h;omega
 unfold AP at*;rw[kK (lt:=tG) gQ.asym gQ.trans (UV gQ.asym gQ.trans _) (by omega) (λp f y e=>by simpa [tG] using b p f y e) (by
  rcases a with a|⟨y,h1,c⟩
  ·exact .inl a
  ·exact .inr ⟨y,h1,by simp only[tG,decide_eq_false_iff_not];exact c⟩)]
 exact kG h
theorem mY{l:List Int}{k:Nat}(h:l.length<=k):AP (l.take k)=AP l:=by rw[List.take_of_length_le h]
end Go.Sy
end
/-
  Which choice comes first: orders, falling numbers, lists that are sorted by insertion.
  Conditions: those that each theorem states.
-/
section
namespace Go.Sy
structure Cmpr {α:Type} (c:α->α->Int):Prop where
  anti:∀a b,c b a= -c a b
  le:∀x y z,c x y<=0->c y z<=0->c x z<=0
theorem Cmpr.refl{α:Type}{c:α->α->Int}(h:Cmpr c)(a:α):c a a=0:=by have:=h.anti a a;omega
theorem Cmpr.zero{α:Type}{c:α->α->Int}(h:Cmpr c){x y z:α}(h1:c x y=0)(d:c y z=0):c x z=0:=by
 have a:=h.le x y z (by omega) (by omega);have b:=h.le z y x (by rw[h.anti y z];omega) (by rw[h.anti x y];omega);have:=h.anti x z;omega
def NV{α:Type}(c d:α->α->Int)(a b:α):Int:=if c a b=0 then d a b else c a b
theorem Cmpr.lex{α:Type}{c d:α->α->Int}(h:Cmpr c)(k:Cmpr d):Cmpr (NV c d) where
 anti a b:=by
  unfold NV;have:=h.anti a b;have:=k.anti a b
  split<;>split<;>omega
 le x y z:=by
  unfold NV;intro h1 e;have f:=h.le x y z;have g:=k.le x y z;have a2:=h.anti x y;have a3:=h.anti y z;have a4:=h.anti x z;have i:=h.le z x y;have z2:=h.le y z x
  split at h1<;>split at e<;>split<;>omega
theorem Cmpr.pull{α β:Type}{c:α->α->Int}(h:Cmpr c)(f:β->α):Cmpr (λa b=>c (f a) (f b)):=⟨λa b=>h.anti _ _,λx y z=>h.le _ _ _⟩
theorem Cmpr.flip{α:Type}{c:α->α->Int}(h:Cmpr c):Cmpr (λa b=>c b a):=⟨λa b=>h.anti _ _,λx y z h1 d=>h.le z y x d h1⟩
def E6{α:Type}(c:α->α->Int):List α->List α->Int
 |a::l,b::m=>if c a b=0 then E6 c l m else c a b
 | [],m=>if m.isEmpty then 0 else-1
 |_::_,[]=>1
theorem Cmpr.list{α:Type}{c:α->α->Int}(h:Cmpr c):Cmpr (E6 c) where
 anti a:=by
  induction a with
  |nil=>intro b;cases b<;>simp[E6]
  | cons x l ih=>
   intro b
   cases b with
   |nil=>simp[E6]
   | cons y m=>
    have h1:=h.anti x y;have e:=ih m;simp only[E6]
    split<;>split<;>omega
 le x:=by
  induction x with
  |nil=>intro y z _ _;cases z<;>simp[E6]
  | cons a l ih=>
   intro y z h1 e
   cases y with
   |nil=>simp[E6] at h1
   | cons b m=>
    cases z with
    |nil=>simp[E6] at e
    | cons d n=>
     simp only[E6] at h1 e⊢;have i:=ih m n;have f:=h.le a b d;have a2:=h.anti a b;have a3:=h.anti b d;have a4:=h.anti a d;have g:=h.le d a b;have z2:=h.le b d a
     split at h1<;>split at e<;>split<;>omega
theorem A2W(a b:Int):DN a b<=0↔a<=b:=by
 unfold DN
 by_cases h1:a<b
 ·simp[h1];omega
 ·by_cases c:b<a
  ·simp[h1,c]
  ·simp[h1,c];omega
theorem LW:Cmpr DN where
 anti a b:=by
  unfold DN
  by_cases h1:a<b
  ·have c:¬b<a:=by omega
   simp[h1,c]
  ·by_cases c:b<a
   ·simp[h1,c]
   ·simp[h1,c]
 le x y z h1 c:=by
  rw[A2W] at*;omega
theorem UX:Cmpr PT where
 anti a b:=by
  unfold PT
  cases h1:JE a b<;>cases c:JE b a<;>simp
  have:=qS h1;rw[c] at this;cases this
 le x y z h1 c:=by
  have le:∀a b,PT a b<=0->JE a b=true\/a=b:=λa b h=>by
   unfold PT at h
   cases e:JE a b with
   |true=>exact .inl rfl
   | false=>
    cases d:JE b a with
    |true=>rw[e,d] at h;simp at h
    |false=>exact .inr (QD e d)
  have f:∀a b,JE a b=true\/a=b->PT a b<=0:=λa b h=>by
   rcases h with h|rfl
   ·unfold PT;rw[if_pos h];omega
   ·rw[UI];omega
  refine f x z ?_
  rcases le _ _ h1 with a|rfl
  ·rcases le _ _ c with b|rfl
   ·exact .inl (N8 a b)
   ·exact .inl a
  ·exact le _ _ c
theorem dV{α:Type}{c:α->α->Int}:∀{l m:List α} {k:Nat} {a b:α},(∀i,i<k->∀x y,l[i]?=some x->m[i]?=some y->c x y=0)->l[k]?=some a->m[k]?=some b->c a b≠0->E6 c l m=c a b
 | x::l,y::m,0,a,b,_,h1,d,e=>by
  simp only[List.getElem?_cons_zero,Option.some.injEq] at h1 d;subst h1;subst d;simp[E6,e]
 | x::l,y::m,k+1,a,b,hi,h1,d,e=>by
  simp only[List.getElem?_cons_succ] at h1 d;have h0:=hi 0 (by omega) x y rfl rfl;simp only[E6,h0,if_true];exact dV (λi h u v g f=>hi (i+1) (by omega) u v (by simpa using g) (by simpa using f)) h1 d e
 | [],_,_,_,_,_,h1,_,_=>by simp at h1
 |_::_,[],_,_,_,_,_,d,_=>by simp at d
theorem XZ{α:Type}{c:α->α->Int}:∀{l m:List α},(∀(i:Nat) x y,l[i]?=some x->m[i]?=some y->c x y=0)->E6 c l m=DN (l.length:Int) (m.length:Int)
 | [],[],_=>by simp[E6,DN]
 | [],_::_,_=>by simp[E6,DN]<;>omega
 |_::_,[],_=>by simp[E6,DN]<;>omega
 | x::l,y::m,h=>by
  have h0:=h 0 x y rfl rfl;simp only[E6,h0,if_true];rw[XZ (λi u v b a=>h (i+1) u v (by simpa using b) (by simpa using a))];unfold DN;simp only[List.length_cons]
  split<;>split<;>(try split)<;>(try split)<;>omega
theorem nB:Cmpr GX:=by
 constructor
 ·intro a b;have d:=LW.anti (pI a) (pI b);have c:=UX.anti a b;unfold GX
  cases h1:pO a<;>cases e:pO b<;>simp[d,c]
 ·intro x y z;have d:=LW.le (pI x) (pI y) (pI z);have c:=UX.le x y z;unfold GX
  cases h1:pO x<;>cases e:pO y<;>cases f:pO z<;>simp<;>first|exact d|exact c|omega
theorem X0:∀(l m:List ByteArray),cmpL l m=E6 GX l m
 | [],[]=>by simp[cmpL,E6]
 | [],_::_=>by simp[cmpL,E6]
 |_::_,[]=>by simp[cmpL,E6]
 |a::l,b::m=>by simp only[cmpL,E6,X0 l m]
theorem J1:Cmpr HS:=by
 have h:Cmpr (NV (λf g:C1G=>PT f.p5 g.p5) (λf g=>E6 GX f.a g.a)):=(UX.pull C1G.p5).lex (nB.list.pull C1G.a);have e:∀f g:C1G,HS f g=NV (λf g:C1G=>PT f.p5 g.p5) (λf g=>E6 GX f.a g.a) f g:=λf g=>by
  unfold HS NV
  dsimp only
  rw[X0]
  by_cases hr:f.p5=g.p5
  ·simp only[hr,UI,if_true]
  ·rw[if_neg hr,if_neg (rW hr)]
 exact⟨λa b=>by rw[e,e];exact h.anti a b,λx y z=>by rw[e,e,e];exact h.le x y z⟩
def WH(a b:List C1G):Int:=E6 HS a b
def HF:List Int->List Int->Int
 |x::a,y::b=>if x=y then HF a b else DN y x
 |a,b=>DN (b.length:Int) (a.length:Int)
theorem TB:∀(a b:List Int),HF a b= -E6 DN a b
 | [],[]=>by simp[HF,E6,DN]
 | [],_::_=>by simp[HF,E6,DN]<;>omega
 |_::_,[]=>by simp[HF,E6,DN]<;>omega
 | x::a,y::b=>by
  simp only[HF,E6];rw[TB a b];unfold DN
  split<;>split<;>(try split)<;>(try split)<;>omega
theorem nC:Cmpr HF:=by
 have h:=LW.list;exact⟨λa b=>by rw[TB,TB,h.anti a b],λx y z h1 c=>by
  rw[TB] at h1 c⊢;have d:=h.anti x y;have a2:=h.anti y z;have a3:=h.anti x z;have:=h.le z y x (by omega) (by omega)
  omega⟩
theorem Z5{a b:List Int}{k:Nat}{x y:Int}(e:∀i,i<k->a[i]?=b[i]?)(c:a[k]?=some x)(hb:b[k]?=some y)(d:x≠y):HF a b=DN y x:=by
 induction k generalizing a b with
 | zero=>
  match a,b with
  | u::a,v::b=>
   simp only[List.getElem?_cons_zero,Option.some.injEq] at c hb;subst c;subst hb;simp[HF,d]
  | [],_=>simp at c
  |_::_,[]=>simp at hb
 | succ k ih=>
  match a,b with
  | u::a,v::b=>
   have h0:=e 0 (by omega);simp only[List.getElem?_cons_zero,Option.some.injEq] at h0;simp only[List.getElem?_cons_succ] at c hb;simp only[HF,h0,if_true];exact ih (λi h=>by have:=e (i+1) (by omega);simpa using this) c hb
  | [],_=>simp at c
  |_::_,[]=>simp at hb
theorem QS{a b:List Int}(c:∀i,i<a.length->i<b.length->a[i]?=b[i]?):HF a b=DN (b.length:Int) (a.length:Int):=by
 induction a generalizing b with
 |nil=>cases b<;>simp[HF]
 | cons u a ih=>
  match b with
  | []=>simp[HF]
  | v::b=>
   have h0:=c 0 (by simp) (by simp);simp only[List.getElem?_cons_zero,Option.some.injEq] at h0;simp only[HF,h0,if_true];rw[ih (λi h1 d=>by have:=c (i+1) (by simpa using h1) (by simpa using d);simpa using this)];simp only[List.length_cons];unfold DN
   split<;>split<;>(try split)<;>(try split)<;>omega
theorem kN{a b:List C1G}{k:Nat}{x y:C1G}(d:∀i,i<k->∀u v,a[i]?=some u->b[i]?=some v->HS u v=0)(e:a[k]?=some x)(hb:b[k]?=some y)(c:HS x y≠0):HS x y=WH a b:=(dV d e hb c).symm
theorem JB{a b:List C1G}(e:∀i,i<a.length->i<b.length->∀u v,a[i]?=some u->b[i]?=some v->HS u v=0):DN (a.length:Int) (b.length:Int)=WH a b:=
 (XZ (λi u v d c=>e i (lS d) (lS c) u v d c)).symm
def JC(a b:C3z):Int:=NV (λa b:C3z=>DN b.p3 a.p3) (NV (λa b=>HF (AP a.q2) (AP b.q2)) (NV (λa b=>DN b.p9 a.p9) (NV (λa b=>DN a.p0 b.p0) (λa b=>WH a.v.k b.v.k)))) a b
theorem RQ:Cmpr JC:=
 (LW.flip.pull C3z.p3).lex ((nC.pull (λc:C3z=>AP c.q2)).lex ((LW.flip.pull C3z.p9).lex ((LW.pull C3z.p0).lex (J1.list.pull (λc:C3z=>c.v.k)))))
abbrev yK(a b:C3z):Bool:=decide (JC a b<0)
theorem nD{α:Type}{c:α->α->Int}(h:Cmpr c):Ordr (λa b=>decide (c a b<0)) where
 asym x y h1:=by
  have:=h.anti x y;simp only[decide_eq_true_eq] at h1;simp only[decide_eq_false_iff_not];omega
 trans x y z h1 d:=by
  simp only[decide_eq_false_iff_not] at h1 d⊢;have e:=h.anti x y;have a2:=h.anti y z;have a3:=h.anti x z;have:=h.le x y z (by omega) (by omega);omega
theorem tJ:Ordr yK:=nD RQ
def BY(l:List C3z):List C3z:=MR yK l
theorem RR(l:List C3z):(BY l).length=l.length:=XT _ l
theorem UY(l:List C3z):List.Perm (BY l) l:=MH _ l
instance:Inhabited C3z:=⟨⟨⟨⟨#[]⟩,[],[]⟩,0,[],0,0⟩⟩
abbrev A5p(a b:C3z):List Int:=[DN b.p3 a.p3,HF (AP a.q2) (AP b.q2),DN b.p9 a.p9,DN a.p0 b.p0]
theorem A2Y{a b:C3z}{k:Nat}{x:Int}(c:[DN b.p3 a.p3,HF (AP a.q2) (AP b.q2),DN b.p9 a.p9,DN a.p0 b.p0][k]?=some x)(e:∀i,i<k->∀y,[DN b.p3 a.p3,HF (AP a.q2) (AP b.q2),DN b.p9 a.p9,DN a.p0 b.p0][i]?=some y->y=0)(d:x≠0):x=JC a b:=by
 unfold JC NV
 match k,c with
 |0,c=>simp at c;subst c;simp[d]
 |1,c=>simp at c;subst c;have h0:=e 0 (by omega) _ rfl;simp[h0,d]
 |2,c=>simp at c;subst c;have h0:=e 0 (by omega) _ rfl;have h1:=e 1 (by omega) _ rfl;simp[h0,h1,d]
 |3,c=>simp at c;subst c;have h0:=e 0 (by omega) _ rfl;have h1:=e 1 (by omega) _ rfl;have f:=e 2 (by omega) _ rfl;simp[h0,h1,f,d]
 |k+4,c=>simp at c
theorem A2Z{a b:C3z}(c:∀i,i<4->∀y,[DN b.p3 a.p3,HF (AP a.q2) (AP b.q2),DN b.p9 a.p9,DN a.p0 b.p0][i]?=some y->y=0):WH a.v.k b.v.k=JC a b:=by
 have h0:=c 0 (by omega) _ rfl;have h1:=c 1 (by omega) _ rfl;have d:=c 2 (by omega) _ rfl;have e:=c 3 (by omega) _ rfl;unfold JC NV;simp[h0,h1,d,e]
theorem gU(l:List C3z):[]=BY (l.take 0):=rfl
theorem kP{l:List C3z}{i k:Nat}{x:C3z}(h:l[i]?=some x)(hk:k<=i)(b:∀p,k<=p->∀y,(BY (l.take i))[p]?=some y->0<JC y x)(a:k=0\/∃y,(IF (BY (l.take i)) x k)[k-1]?=some y/\¬0<JC y x):(IF (BY (l.take i)) x k).set k x=BY (l.take (i+1)):=by
 have hl:(BY (l.take i)).length=i:=by rw[RR,List.length_take];have:=lS h;omega
 unfold BY at*;rw[kK (lt:=yK) tJ.asym tJ.trans (UV tJ.asym tJ.trans _) (by omega) (λp d y c=>by have:=b p d y c;have:=RQ.anti x y;simp only[yK,decide_eq_true_eq];omega) (by
  rcases a with a|⟨y,h1,e⟩
  ·exact .inl a
  ·exact .inr ⟨y,h1,by have:=RQ.anti x y;simp only[yK,decide_eq_false_iff_not];omega⟩)]
 exact kG h
theorem U0{l:List C3z}{k:Nat}(h:l.length<=k):BY (l.take k)=BY l:=by rw[List.take_of_length_le h]
theorem yL{α:Type}{s:List α}{x y:α}{k:Nat}(h:y∈IF s x k):y=x\/y∈s:=by
 unfold IF at h
 rcases List.mem_append.1 h with h|h
 ·exact .inr (List.mem_of_mem_take h)
 ·rcases List.mem_cons.1 h with h|h
  ·cases e:s[k]? with
   |none=>rw[e] at h;exact .inl h
   |some z=>rw[e] at h;simp only[Option.getD_some] at h;rw[h];exact .inr (List.mem_of_getElem? e)
  ·exact .inr (List.mem_of_mem_drop h)
theorem yM{l:List C3z}{i k j:Nat}{x y:C3z}(a:l[i]?=some x)(b:(IF (BY (l.take i)) x k)[j]?=some y):y∈l:=by
 rcases yL (List.mem_of_getElem? b) with h|h
 ·rw[h];exact List.mem_of_getElem? a
 ·exact List.mem_of_mem_take ((UY _).mem_iff.1 h)
theorem tO{l:List C3z}{x:C3z}:x∈BY l↔x∈l:=(UY l).mem_iff
end Go.Sy
end
