/-
  Which choice comes first: orders, falling numbers, lists that are sorted by insertion.
  Conditions: those that each theorem states.
-/
import Derived.Test.YtbnpgdcpbmaebaaGreatDoorCho
import Derived.Test.YtbnpgdcpbmaebaaGreatDoorNum
import Derived.Test.YtbnpgdcpbmaebaaGreatDoorPdq
namespace Go.Sy
structure Cmpr {α:Type} (c:α->α->Int):Prop where
  anti:∀a b,c b a= -c a b
  le:∀x y z,c x y<=0->c y z<=0->c x z<=0
theorem Cmpr.refl{α:Type}{c:α->α->Int}(h:Cmpr c)(a:α):c a a=0:=by have:=h.anti a a;omega
theorem Cmpr.zero{α:Type}{c:α->α->Int}(h:Cmpr c){x y z:α}(h1:c x y=0)(d:c y z=0):c x z=0:=by
 have a:=h.le x y z (by omega) (by omega);have b:=h.le z y x (by rw[h.anti y z];omega) (by rw[h.anti x y];omega);have:=h.anti x z;omega
def NV{α:Type}(c d:α->α->Int)(a b:α):Int:=if c a b=0 then d a b else c a b
theorem Cmpr.lex{α:Type}{c d:α->α->Int}(h:Cmpr c)(k:Cmpr d):Cmpr (NV c d) where
 anti a b:=by
  unfold NV;have:=h.anti a b;have:=k.anti a b
  split<;>split<;>omega
 le x y z:=by
  unfold NV;intro h1 e;have f:=h.le x y z;have g:=k.le x y z;have a2:=h.anti x y;have a3:=h.anti y z;have a4:=h.anti x z;have i:=h.le z x y;have z2:=h.le y z x
  split at h1<;>split at e<;>split<;>omega
theorem Cmpr.pull{α β:Type}{c:α->α->Int}(h:Cmpr c)(f:β->α):Cmpr (λa b=>c (f a) (f b)):=⟨λa b=>h.anti _ _,λx y z=>h.le _ _ _⟩
def E6{α:Type}(c:α->α->Int):List α->List α->Int
 |a::l,b::m=>if c a b=0 then E6 c l m else c a b
 | [],m=>if m.isEmpty then 0 else-1
 |_::_,[]=>1
theorem Cmpr.list{α:Type}{c:α->α->Int}(h:Cmpr c):Cmpr (E6 c) where
 anti a:=by
  induction a with
  |nil=>intro b;cases b<;>simp[E6]
  | cons x l ih=>
   intro b
   cases b with
   |nil=>simp[E6]
   | cons y m=>
    have h1:=h.anti x y;have e:=ih m;simp only[E6]
    split<;>split<;>omega
 le x:=by
  induction x with
  |nil=>intro y z _ _;cases z<;>simp[E6]
  | cons a l ih=>
   intro y z h1 e
   cases y with
   |nil=>simp[E6] at h1
   | cons b m=>
    cases z with
    |nil=>simp[E6] at e
    | cons d n=>
     simp only[E6] at h1 e⊢;have i:=ih m n;have f:=h.le a b d;have a2:=h.anti a b;have a3:=h.anti b d;have a4:=h.anti a d;have g:=h.le d a b;have z2:=h.le b d a
     split at h1<;>split at e<;>split<;>omega
theorem A2W(a b:Int):DN a b<=0↔a<=b:=by
 unfold DN
 by_cases h1:a<b
 ·simp[h1];omega
 ·by_cases c:b<a
  ·simp[h1,c]
  ·simp[h1,c];omega
theorem LW:Cmpr DN where
 anti a b:=by
  unfold DN
  by_cases h1:a<b
  ·have c:¬b<a:=by omega
   simp[h1,c]
  ·by_cases c:b<a
   ·simp[h1,c]
   ·simp[h1,c]
 le x y z h1 c:=by
  rw[A2W] at*;omega
theorem UX:Cmpr PT where
 anti a b:=by
  unfold PT
  cases h1:JE a b<;>cases c:JE b a<;>simp
  have:=qS h1;rw[c] at this;cases this
 le x y z h1 c:=by
  have le:∀a b,PT a b<=0->JE a b=true\/a=b:=λa b h=>by
   unfold PT at h
   cases e:JE a b with
   |true=>exact .inl rfl
   | false=>
    cases d:JE b a with
    |true=>rw[e,d] at h;simp at h
    |false=>exact .inr (QD e d)
  have ge:∀a b,JE a b=true\/a=b->PT a b<=0:=λa b h=>by
   rcases h with h|rfl
   ·unfold PT;rw[if_pos h];omega
   ·rw[UI];omega
  refine ge x z ?_
  rcases le _ _ h1 with a|rfl
  ·rcases le _ _ c with b|rfl
   ·exact .inl (N8 a b)
   ·exact .inl a
  ·exact le _ _ c
theorem nB:Cmpr GX:=by
 constructor
 ·intro a b;have k1:=LW.anti (pI a) (pI b);have c:=UX.anti a b;unfold GX
  cases h1:pO a<;>cases d:pO b<;>simp[k1,c]
 ·intro x y z;have k1:=LW.le (pI x) (pI y) (pI z);have c:=UX.le x y z;unfold GX
  cases h1:pO x<;>cases d:pO y<;>cases e:pO z<;>simp<;>first|exact k1|exact c|omega
theorem X0:∀(l m:List ByteArray),cmpL l m=E6 GX l m
 | [],[]=>by simp[cmpL,E6]
 | [],_::_=>by simp[cmpL,E6]
 |_::_,[]=>by simp[cmpL,E6]
 |a::l,b::m=>by simp only[cmpL,E6,X0 l m]
theorem J1:Cmpr HS:=by
 have h:Cmpr (NV (λf g:Fact=>PT f.Rel g.Rel) (λf g=>E6 GX f.Args g.Args)):=(UX.pull Fact.Rel).lex (nB.list.pull Fact.Args);have e:∀f g:Fact,HS f g=NV (λf g:Fact=>PT f.Rel g.Rel) (λf g=>E6 GX f.Args g.Args) f g:=λf g=>by
  unfold HS NV
  dsimp only
  rw[X0]
  by_cases hr:f.Rel=g.Rel
  ·simp only[hr,UI,if_true]
  ·rw[if_neg hr,if_neg (rW hr)]
 exact⟨λa b=>by rw[e,e];exact h.anti a b,λx y z=>by rw[e,e,e];exact h.le x y z⟩
def WH(a b:List Fact):Int:=E6 HS a b
def HF:List Int->List Int->Int
 |x::a,y::b=>if x=y then HF a b else DN y x
 |a,b=>DN (b.length:Int) (a.length:Int)
def JC(a b:Choice):Int:=NV (λa b:Choice=>DN b.Priority a.Priority) (NV (λa b=>HF (AP a.Times) (AP b.Times)) (NV (λa b=>DN b.Specific a.Specific) (NV (λa b=>DN a.Order b.Order) (λa b=>WH a.Match.Facts b.Match.Facts)))) a b
abbrev yK(a b:Choice):Bool:=decide (JC a b<0)
def BY(l:List Choice):List Choice:=MR yK l
instance:Inhabited Choice:=⟨⟨⟨⟨#[]⟩,[],[]⟩,0,[],0,0⟩⟩
end Go.Sy
