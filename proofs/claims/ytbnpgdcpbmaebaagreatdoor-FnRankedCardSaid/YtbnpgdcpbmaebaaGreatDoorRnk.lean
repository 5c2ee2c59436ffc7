/-
  What is drawn: choices; how choices are ranked.
  Conditions: those that each theorem states.
-/
import Derived.Test.YtbnpgdcpbmaebaaGreatDoorSlc
namespace Go.Sy
open Go
def smC(x:Choice):Prop:=DJ x.Match<=1000/\x.Times.length<=6/\(-1000<=x.Priority/\x.Priority<=1000)/\(-1000<=x.Specific/\x.Specific<=1000)/\(-1000<=x.Order/\x.Order<=1000)
theorem C5I(r:Rule):GD r<=BG r:=by
 have h:=kD r.If;have a:DD BW r.If=r.If.length+AI BW r.If:=rfl;unfold GD BG;omega
theorem C5O:smC z0C/\z0C.Times.length<=4:=by
 have:DJ z0C.Match=0:=rfl;refine⟨⟨by omega,by simp[z0C],by simp[z0C],by simp[z0C],by simp[z0C]⟩,by simp[z0C]⟩
theorem C5P{a:List Rule}{l:List Stamp}{facts:List Fact}{k:Nat}{m:Match}(c:AR a=true)(d:(DX a facts)[k]?=some m):smC (CW a l m)/\(CW a l m).Times.length<=4:=by
 have h1:=eP d;unfold CW
 split
 ·have hf:=QI a m.Rule;have hl:=YA c;have ht:(BJ l m.Facts).length<=4:=by unfold BJ;rw[List.length_map];exact h1.2
  have hc:(-1<=(A2F a m).Priority/\(A2F a m).Priority<=10)/\GD (A2F a m)<=242:=by
   unfold A2F
   cases hq:a[(BN a m.Rule).toNat]? with
   |none=>exact⟨⟨by simp,by simp⟩,by simp[GD,AI]⟩
   | some r=>
    have b:=(X9 c hq).1;exact⟨(B6L b).1.2.1,Nat.le_trans (C5I r) (B0c b).1⟩
  obtain⟨hp,hs⟩:=hc;have e:NP a l m=⟨m,(A2F a m).Priority,BJ l m.Facts,(GD (A2F a m):Int),BN a m.Rule⟩:=rfl;rw[e];exact⟨⟨by show DJ m<=1000;omega,by show(BJ l m.Facts).length<=6;omega,by show-1000<=(A2F a m).Priority/\(A2F a m).Priority<=1000;omega,by show-1000<=(GD (A2F a m):Int)/\(GD (A2F a m):Int)<=1000;omega,by show-1000<=BN a m.Rule/\BN a m.Rule<=1000;omega⟩,ht⟩
 ·exact C5O
theorem C4q{a:List Fact}{p b t2 s o:Int}(c:B8T a)(hl:(a.length:Int)<=2)(hp:0<=p/\p<=5)(d:0<=s/\s<=5)(e:0<=o/\o<=5):smC ⟨⟨⟨#[114,49]⟩,a,[]⟩,p,[b,t2],s,o⟩/\(⟨⟨⟨#[114,49]⟩,a,[]⟩,p,[b,t2],s,o⟩:Choice).Times.length<=4:=by
 have h1:=B8G c;have f:DJ ⟨⟨#[114,49]⟩,a,[]⟩=2+DD F9 a+0:=by unfold DJ;rfl
 refine⟨⟨by show DJ ⟨⟨#[114,49]⟩,a,[]⟩<=1000;omega,by simp,by show-1000<=p/\p<=1000;omega,by show-1000<=s/\s<=1000;omega,by show-1000<=o/\o<=1000;omega⟩,by simp⟩
theorem C4r{x:Choice}{t:Int}(h:smC x/\x.Times.length<=4):smC ⟨x.Match,x.Priority,x.Times++ [t],x.Specific,x.Order⟩:=by
 obtain⟨⟨h1,b,a⟩,c⟩:=h;exact⟨h1,by simp;omega,a⟩
def Rng{α:Type}(c:α->α->Int):Prop:=∀a b,-1<=c a b/\c a b<=1
theorem Rng.lex{α:Type}{c d:α->α->Int}(h:Rng c)(k:Rng d):Rng (NV c d):=λa b=>by
 unfold NV;split
 ·exact k a b
 ·exact h a b
theorem Rng.pull{α β:Type}{c:α->α->Int}(h:Rng c)(f:β->α):Rng (λa b=>c (f a) (f b)):=λa b=>h _ _
theorem Rng.flip{α:Type}{c:α->α->Int}(h:Rng c):Rng (λa b=>c b a):=λa b=>h _ _
theorem Rng.list{α:Type}{c:α->α->Int}(h:Rng c):∀l m,-1<=E6 c l m/\E6 c l m<=1
 | [],m=>by unfold E6;split<;>omega
 |a::l,[]=>by unfold E6;omega
 | a::l,b::m=>by
  unfold E6
  split
  ·exact Rng.list h l m
  ·exact h a b
theorem rgZ:Rng DN:=λa b=>by unfold DN;split<;>(try split)<;>omega
theorem rgS:Rng PT:=λa b=>by unfold PT;split<;>(try split)<;>omega
theorem C5J:Rng GX:=λa b=>by
 unfold GX
 split
 ·exact rgZ _ _
 ·split
  ·omega
  ·split
   ·omega
   ·exact rgS _ _
theorem C5K:Rng HS:=λf g=>by
 unfold HS
 split
 ·rw[X0];exact C5J.list _ _
 ·exact rgS _ _
theorem C5L:Rng HF:=λa b=>by
 rw[TB];have:=rgZ.list a b;omega
theorem C5M:Rng JC:=
 (rgZ.flip.pull Choice.Priority).lex ((C5L.pull (λc:Choice=>AP c.Times)).lex ((rgZ.flip.pull Choice.Specific).lex ((rgZ.pull Choice.Order).lex (λa b=>C5K.list a.Match.Facts b.Match.Facts))))
theorem C5N{l:List Choice}{j:Nat}{a b:Choice}(d:(BY l)[j]?=some a)(hb:(BY l)[j+1]?=some b):JC a b<=0:=by
 have h:=UV (lt:=yK) tJ.asym (λx y z h1 c=>tJ.trans x y z h1 c) l;have ha':=List.getElem?_eq_some_iff.1 d;have hb':=List.getElem?_eq_some_iff.1 hb;have:=List.pairwise_iff_getElem.1 h j (j+1) ha'.1 hb'.1 (by omega);have e:(MR yK l)[j]'ha'.1=a:=ha'.2;have f:(MR yK l)[j+1]'hb'.1=b:=hb'.2;rw[e,f] at this;have c:=RQ.anti a b;simp at this;omega
theorem C4w{l:List Choice}{j:Nat}{a b:Choice}(d:1<=j)(c:(BY l)[j-1]?=some a)(hb:(BY l)[j]?=some b)(h:0<JC a b):False:=by
 obtain⟨k,rfl⟩:∃k,j=k+1:=⟨j-1,by omega⟩;have:=C5N (j:=k) c hb;omega
end Go.Sy
