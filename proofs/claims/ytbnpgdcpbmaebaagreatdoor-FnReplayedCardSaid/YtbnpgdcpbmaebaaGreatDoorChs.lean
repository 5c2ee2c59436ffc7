/-
  Rows that are sorted by exchanges: what the parts of the library's quicksort leave, as plain facts on lists.
  Conditions: those that each theorem states.
-/
import Derived.Test.YtbnpgdcpbmaebaaGreatDoorSort
import Derived.Test.YtbnpgdcpbmaebaaGreatDoorOwn2
import Derived.Laws.MathBits
import Derived.Lib.BitFns
import Derived.Test.YtbnpgdcpbmaebaaGreatDoorCho
import Derived.Test.YtbnpgdcpbmaebaaGreatDoorNum
section
namespace Go.Sy
section
variable {α:Type} [Inhabited α] {lt:α->α->Bool}
theorem Chg.get{d e:List α}{a b:Nat}(h:Chg d e a b){φ:α->Prop}(hp:∀p,a<=p->p<b->φ (A d p)):∀p,a<=p->p<b->φ (A e p):=λp h1 c=>by
 obtain⟨j,f,g,i⟩:=h.mem p h1 c;rw[i];exact hp j f g
def Sft(lt:α->α->Bool)(d:List α)(f lo hi r:Nat):Prop:=(∀p c,lo<=p->p≠r->(c=2*p+1\/c=2*p+2)->c<hi->lt (A d (f+p)) (A d (f+c))=false)/\
 (∀p c,lo<=p->(r=2*p+1\/r=2*p+2)->(c=2*r+1\/c=2*r+2)->c<hi->lt (A d (f+p)) (A d (f+c))=false)
theorem Sft.at{d:List α}{f lo a r b:Nat}(h:Sft lt d f lo a r)(e:r=b):Sft lt d f lo a b:=e▸h
theorem XY{d:List α}{n:Nat}(h:n<=1):FI lt d 0 n:=λp q h1 a b=>by omega
end
end Go.Sy
namespace Go.Sy
open Go Go.RowKit
structure Srx {α:Type} [Inhabited α] (P:Program) (C:List α->Chunk) (lt:α->α->Bool) (d0:List α) (dv:Value) (w0:World):Prop where
  len:∀(Hs:List Chunk) (w:World) (d:List α),List.Perm d d0->St w0 (C d::Hs) w->∃f C4k,AA P f=true/\(callMethod dv "Len" #[]).run P w=(callFunc f C4k).run P w/\Calls P f C4k w (λe w'=>e= .returned (.int .i64 (d0.length:Int))/\St w0 (C d::Hs) w')
  less:∀(Hs:List Chunk) (w:World) (d:List α) (i j:Nat),List.Perm d d0->i<d0.length->j<d0.length->St w0 (C d::Hs) w->
    ∃f C4k,AA P f=true/\(callMethod dv "Less" #[Value.int .i64 (i:Int),Value.int .i64 (j:Int)]).run P w=(callFunc f C4k).run P w/\Calls P f C4k w (λe w'=>e= .returned (.bool (lt (A d i) (A d j)))/\St w0 (C d::Hs) w')
  swap:∀(Hs:List Chunk) (w:World) (d:List α) (i j:Nat),List.Perm d d0->i<d0.length->j<d0.length->St w0 (C d::Hs) w->
    ∃f C4k,AA P f=true/\(callMethod dv "Swap" #[Value.int .i64 (i:Int),Value.int .i64 (j:Int)]).run P w=(callFunc f C4k).run P w/\Calls P f C4k w (λe w'=>e= .returned (.tuple #[])/\St w0 (C (swp d i j)::Hs) w')
section
variable {P:Program} {N:Nat} {w0:World} {H:List Chunk} {L:Fm} {Q:Exit->Act->World->Prop} {o:Oper} {dd:Nat} {K:Act->World->Prop}
theorem A2T{x:Operand}{nm:String}{C4k:List Operand}{vs:List Value}{v:Value}{b:Array TypeId}{a:Act}{w:World}(c:Fits a N L)
  (e:o.op= .call ⟨.invoke x nm,C4k.toArray,b⟩) (f:ev L x=some v) (g:evs L C4k=some vs):(execOp a.eval o).run P w=(callMethod v nm vs.toArray).run P w:=by
 unfold execOp;rw[e];have he:(C4k.toArray.map a.eval)=vs.toArray:=by rw[List.map_toArray,c.evs g]
 simp only[resolve,c.ev f,he,Sem.run_bind,Sem.run_pure,Result.andThen_ok,invoke];simp
theorem yH{x:Operand}{nm:String}{C4k:List Operand}{vs:List Value}{v r:Value}{b:Array TypeId}{H':List Chunk}(g:o.op= .call ⟨.invoke x nm,C4k.toArray,b⟩)(c:ev L x=some v)(h:evs L C4k=some vs)(hd:o.dst=some dd)(i:Nat.blt dd N=true)
  (hc:∀w,St w0 H w->∃f bs,AA P f=true/\(callMethod v nm vs.toArray).run P w=(callFunc f bs).run P w/\Calls P f bs w (λe w'=>e= .returned r/\St w0 H' w'))
  (k:D N w0 H' ((dd,r)::L) K):D N w0 H L (λa w=>o.wp P a w K Q):=by
 intro a w hf hs;show o.wp P a w K Q;obtain⟨f,bs,hb,h1,hc⟩:=hc w hs;have j:=A2T (P:=P) (w:=w) hf g c h;unfold AA at hb
 split at hb
 ·rename_i fn hfn;simp only[Bool.and_eq_true,Bool.not_eq_true'] at hb;have hrun:(execOp a.eval o).run P w= .ok (.enter f bs) w:=by
   rw[j,h1];have hbody:fn.body.isNone=false:=by rw[<-Option.not_isSome,hb.2];rfl
   have hnm:¬fn.name= "runtime.NumGoroutine" :=by simpa using hb.1
   have hbn:¬fn.body=none:=by intro e;rw[e] at hbody;cases hbody
   simp only[callFunc,program];simp[Sem.run,hfn,hnm,hbn]
  unfold Oper.wp;rw[hrun,Oper.upon_enter];refine hc.mono λe w' he=>?_
  obtain⟨rfl,c⟩:=he;simp only;rw[hd];exact k _ _ (hf.put i _) c
 ·cases hb
section
variable {α:Type} [Inhabited α] {C:List α->Chunk} {lt:α->α->Bool} {d0 d:List α} {dv:Value}
theorem A5l(S:Srx P C lt d0 dv w0)(hp:List.Perm d d0){x:Operand}{C4k:List Operand}{b:Array TypeId}{i j:Nat}
  (c:o.op= .call ⟨.invoke x "Less",C4k.toArray,b⟩) (e:ev L x=some dv) (f:evs L C4k=some [Value.int .i64 (i:Int),Value.int .i64 (j:Int)]) (hd:o.dst=some dd) (g:Nat.blt dd N=true)
  (h:i<d0.length) (l:j<d0.length) (k:D N w0 (C d::H) ((dd, .bool (lt (A d i) (A d j)))::L) K):D N w0 (C d::H) L (λa w=>o.wp P a w K Q):=
 yH c e f hd g (λw hs=>S.less H w d i j hp h l hs) k
theorem A5m(S:Srx P C lt d0 dv w0)(hp:List.Perm d d0){x:Operand}{C4k:List Operand}{b:Array TypeId}{i j:Nat}
  (c:o.op= .call ⟨.invoke x "Swap",C4k.toArray,b⟩) (e:ev L x=some dv) (f:evs L C4k=some [Value.int .i64 (i:Int),Value.int .i64 (j:Int)]) (hd:o.dst=some dd) (g:Nat.blt dd N=true)
  (h:i<d0.length) (l:j<d0.length) (k:D N w0 (C (swp d i j)::H) ((dd, .tuple #[])::L) K):D N w0 (C d::H) L (λa w=>o.wp P a w K Q):=
 yH c e f hd g (λw hs=>S.swap H w d i j hp h l hs) k
theorem A7f(S:Srx P C lt d0 dv w0)(hp:List.Perm d d0){x:Operand}{b:Array TypeId}
  (c:o.op= .call ⟨.invoke x "Len", #[],b⟩) (e:ev L x=some dv) (hd:o.dst=some dd) (f:Nat.blt dd N=true)
  (k:D N w0 (C d::H) ((dd, .int .i64 (d0.length:Int))::L) K):D N w0 (C d::H) L (λa w=>o.wp P a w K Q):=
 yH (C4k:=[]) c e rfl hd f (λw hs=>S.len H w d hp hs) k
omit [Inhabited α] in
theorem cix{σ:Type}{val:σ->Value}{J:σ->List α->Prop}{H':σ->List Chunk}{f:Nat}{C4k:List Operand}{vs:List Value}{b:Array TypeId}(hb:AA P f=true)
  (c:o.op= .call ⟨.value (.func f),C4k.toArray,b⟩) (g:evs L C4k=some vs) (hd:o.dst=some dd) (h:Nat.blt dd N=true)
  (hc:∀w,St w0 (C d::H) w->Calls P f vs.toArray w (λe w'=>∃s e',J s e'/\e= .returned (val s)/\St w0 (C e'::H' s) w'))
  (k:∀s e',J s e'->D N w0 (C e'::H' s) ((dd,val s)::L) K):D N w0 (C d::H) L (λa w=>o.wp P a w K Q):=
 K7 (σ:=σ × List α) (val:=λp=>val p.1) (H':=λp=>C p.2::H' p.1) (J:=λp=>J p.1 p.2) hb c g hd h
  (λw hs=>(hc w hs).mono λ_ _ ⟨s,e',h1,i,j⟩=>⟨(s,e'),i,h1,j⟩) (λp hp=>k p.1 p.2 hp)
omit [Inhabited α] in
end
end
end Go.Sy
namespace Go.Sy
open Go Go.RowKit
def SZ(P:Program)(t:TypeId)(nm:String):Option (Array FieldStep × Option (FuncId × Bool)):=(P.info? t).bind λi=>(i.methods.find? (λm=>m.name==nm)).map λm=>(m.path,m.func)
theorem PO{P:Program}{t:TypeId}{nm:String}{p:Array FieldStep}{f:Option (FuncId × Bool)}(h:SZ P t nm=some (p,f)):∃i m,P.info? t=some i/\i.methods.find? (λm=>m.name==nm)=some m/\m.path=p/\m.func=f:=by
 unfold SZ at h;simp only[Option.bind_eq_some_iff,Option.map_eq_some_iff,Prod.mk.injEq] at h;obtain⟨i,hi,m,hm,h1,a⟩:=h;exact⟨i,m,hi,hm,h1,a⟩
theorem dR{P:Program}{n:Nat}{t e:TypeId}{v:Value}{nm:String}{f:FuncId}{w:World}(a:SZ P t nm=some (#[],some (f,false)))(hu:P.underlying t=some (.slice e)):(method (n+1) t v nm).run P w= .ok (f,v) w:=by
 obtain⟨i,m,hi,h1,b,c⟩:=PO a;unfold method;simp[typeInfo,hi,h1,b,c,follow,receiverAt,run_underlying hu,Place.get]
theorem tC{P:Program}{n:Nat}{t e:TypeId}{a:Addr}{r:Value}{nm:String}{f:FuncId}{w:World}(b:SZ P t nm=some (#[],some (f,false)))(hu:P.underlying t=some (.pointer e))(hl:(loadVar e a).run P w= .ok r w):(method (n+1) t (.pointer (some a)) nm).run P w= .ok (f,r) w:=by
 obtain⟨i,m,hi,h1,c,g⟩:=PO b;unfold method;have hc:∀h j:String,Builtin.ssaWrapNilChk_ #[t] t #[.pointer (some a),strVal h,strVal j]=pure (.pointer (some a)):=λ_ _=>rfl
 simp[typeInfo,hi,h1,c,g,follow,receiverAt,run_underlying hu,Place.get,hc,asAddr,hl]
theorem tF{P:Program}{n:Nat}{t s e:TypeId}{a:Addr}{v':Value}{nm:String}{f:Array Field}{fl:Field}{w:World}(g:SZ P t nm=some (#[⟨s,0,true⟩],none))(h:P.underlying s=some (.struct f))(j:f[0]?=some fl)(k:fl.offset=0)(l:∃i,P.info? fl.type=some i/\i.size=1)
  (hl:(loadVar fl.type (a.add 0)).run P w= .ok (.iface e v') w):(method (n+1) t (.pointer (some a)) nm).run P w=(method n e v' nm).run P w:=by
 obtain⟨i,m,hi,h1,p,q⟩:=PO g;obtain⟨i2,b,c⟩:=l;rw[method];simp[typeInfo,hi,h1,p,q,follow,run_underlying h,j,Place.get,asAddr,fieldPlace,sizeOf,b,c,k,hl]
theorem ZZ{P:Program}{t:TypeId}{v r:Value}{nm:String}{f:FuncId}{args:Array Value}{w:World}(h:(method (P.types.size+Made.depth) t v nm).run P w= .ok (f,r) w):(callMethod (.iface t v) nm args).run P w=(callFunc f (#[r]++args)).run P w:=by
 have e:(callMethod (.iface t v) nm args)=(program>>=λp=>method (p.types.size+Made.depth) t v nm>>=λx=>callFunc x.1 (#[x.2]++args)):=rfl;have a:Sem.run P program w= .ok P w:=rfl;rw[e,Sem.run_bind,a,Result.andThen_ok,Sem.run_bind,h,Result.andThen_ok]
section
variable {P:Program} {N:Nat} {w0:World} {H:List Chunk} {L:Fm} {Q:Exit->Act->World->Prop} {o:Oper} {dd:Nat} {K:Act->World->Prop} {c1 c2:Chunk}
theorem A0z(k:D N w0 (star c1 c2::H) L K):D N w0 (c1::c2::H) L K:=λa w hf hs=>k a w hf hs.star
theorem A1A(k:D N w0 (c1::c2::H) L K):D N w0 (star c1 c2::H) L K:=λa w hf hs=>k a w hf hs.split
theorem A5n{t e:TypeId}{x:Operand}{v:Value}(b:P.underlying t=some (.pointer e))(c:o.op= .makeInterface t x)(f:ev L x=some v):C2 P N w0 H L o (.iface t v):=λa w hf _=>by
 unfold execOp;rw[c];simp[Instr.makeInterface,hf.ev f,run_underlying b]
end
abbrev tG(x y:Int):Bool:=decide (y<x)
theorem gQ:Ordr tG:=⟨λx y h=>by simp only[tG,decide_eq_true_eq,decide_eq_false_iff_not] at*;omega,λx y z h1 a=>by simp only[tG,decide_eq_false_iff_not] at*;omega⟩
def AP(l:List Int):List Int:=MR tG l
theorem yI{l e:List Int}(hp:List.Perm e l)(a:FI tG e 0 l.length):e=AP l:=by
 have hlen:=hp.length_eq;refine LH (lt:=tG) (λx y h1 b=>by simp only[tG,decide_eq_false_iff_not] at h1 b;omega) (hp.trans (MH _ l).symm) (A2Q (by rw[hlen];exact a)) (UV gQ.asym gQ.trans l)
theorem QP(l:List Int):(AP l).length=l.length:=XT _ l
end Go.Sy
end
/-
  Which choice comes first: orders, falling numbers, lists that are sorted by insertion.
  Conditions: those that each theorem states.
-/
section
namespace Go.Sy
structure Cmpr {α:Type} (c:α->α->Int):Prop where
  anti:∀a b,c b a= -c a b
  le:∀x y z,c x y<=0->c y z<=0->c x z<=0
theorem Cmpr.refl{α:Type}{c:α->α->Int}(h:Cmpr c)(a:α):c a a=0:=by have:=h.anti a a;omega
theorem Cmpr.zero{α:Type}{c:α->α->Int}(h:Cmpr c){x y z:α}(h1:c x y=0)(d:c y z=0):c x z=0:=by
 have a:=h.le x y z (by omega) (by omega);have b:=h.le z y x (by rw[h.anti y z];omega) (by rw[h.anti x y];omega);have:=h.anti x z;omega
def NV{α:Type}(c d:α->α->Int)(a b:α):Int:=if c a b=0 then d a b else c a b
theorem Cmpr.lex{α:Type}{c d:α->α->Int}(h:Cmpr c)(k:Cmpr d):Cmpr (NV c d) where
 anti a b:=by
  unfold NV;have:=h.anti a b;have:=k.anti a b
  split<;>split<;>omega
 le x y z:=by
  unfold NV;intro h1 e;have f:=h.le x y z;have g:=k.le x y z;have a2:=h.anti x y;have a3:=h.anti y z;have a4:=h.anti x z;have i:=h.le z x y;have z2:=h.le y z x
  split at h1<;>split at e<;>split<;>omega
theorem Cmpr.pull{α β:Type}{c:α->α->Int}(h:Cmpr c)(f:β->α):Cmpr (λa b=>c (f a) (f b)):=⟨λa b=>h.anti _ _,λx y z=>h.le _ _ _⟩
theorem Cmpr.flip{α:Type}{c:α->α->Int}(h:Cmpr c):Cmpr (λa b=>c b a):=⟨λa b=>h.anti _ _,λx y z h1 d=>h.le z y x d h1⟩
def E6{α:Type}(c:α->α->Int):List α->List α->Int
 |a::l,b::m=>if c a b=0 then E6 c l m else c a b
 | [],m=>if m.isEmpty then 0 else-1
 |_::_,[]=>1
theorem Cmpr.list{α:Type}{c:α->α->Int}(h:Cmpr c):Cmpr (E6 c) where
 anti a:=by
  induction a with
  |nil=>intro b;cases b<;>simp[E6]
  | cons x l ih=>
   intro b
   cases b with
   |nil=>simp[E6]
   | cons y m=>
    have h1:=h.anti x y;have e:=ih m;simp only[E6]
    split<;>split<;>omega
 le x:=by
  induction x with
  |nil=>intro y z _ _;cases z<;>simp[E6]
  | cons a l ih=>
   intro y z h1 e
   cases y with
   |nil=>simp[E6] at h1
   | cons b m=>
    cases z with
    |nil=>simp[E6] at e
    | cons d n=>
     simp only[E6] at h1 e⊢;have i:=ih m n;have f:=h.le a b d;have a2:=h.anti a b;have a3:=h.anti b d;have a4:=h.anti a d;have g:=h.le d a b;have z2:=h.le b d a
     split at h1<;>split at e<;>split<;>omega
theorem A2W(a b:Int):DN a b<=0↔a<=b:=by
 unfold DN
 by_cases h1:a<b
 ·simp[h1];omega
 ·by_cases c:b<a
  ·simp[h1,c]
  ·simp[h1,c];omega
theorem LW:Cmpr DN where
 anti a b:=by
  unfold DN
  by_cases h1:a<b
  ·have c:¬b<a:=by omega
   simp[h1,c]
  ·by_cases c:b<a
   ·simp[h1,c]
   ·simp[h1,c]
 le x y z h1 c:=by
  rw[A2W] at*;omega
theorem UX:Cmpr PT where
 anti a b:=by
  unfold PT
  cases h1:JE a b<;>cases c:JE b a<;>simp
  have:=qS h1;rw[c] at this;cases this
 le x y z h1 c:=by
  have le:∀a b,PT a b<=0->JE a b=true\/a=b:=λa b h=>by
   unfold PT at h
   cases e:JE a b with
   |true=>exact .inl rfl
   | false=>
    cases d:JE b a with
    |true=>rw[e,d] at h;simp at h
    |false=>exact .inr (QD e d)
  have ge:∀a b,JE a b=true\/a=b->PT a b<=0:=λa b h=>by
   rcases h with h|rfl
   ·unfold PT;rw[if_pos h];omega
   ·rw[UI];omega
  refine ge x z ?_
  rcases le _ _ h1 with a|rfl
  ·rcases le _ _ c with b|rfl
   ·exact .inl (N8 a b)
   ·exact .inl a
  ·exact le _ _ c
theorem dV{α:Type}{c:α->α->Int}:∀{l m:List α} {k:Nat} {a b:α},(∀i,i<k->∀x y,l[i]?=some x->m[i]?=some y->c x y=0)->l[k]?=some a->m[k]?=some b->c a b≠0->E6 c l m=c a b
 | x::l,y::m,0,a,b,_,h1,d,e=>by
  simp only[List.getElem?_cons_zero,Option.some.injEq] at h1 d;subst h1;subst d;simp[E6,e]
 | x::l,y::m,k+1,a,b,hi,h1,d,e=>by
  simp only[List.getElem?_cons_succ] at h1 d;have h0:=hi 0 (by omega) x y rfl rfl;simp only[E6,h0,if_true];exact dV (λi hk u v hu hv=>hi (i+1) (by omega) u v (by simpa using hu) (by simpa using hv)) h1 d e
 | [],_,_,_,_,_,h1,_,_=>by simp at h1
 |_::_,[],_,_,_,_,_,d,_=>by simp at d
theorem XZ{α:Type}{c:α->α->Int}:∀{l m:List α},(∀(i:Nat) x y,l[i]?=some x->m[i]?=some y->c x y=0)->E6 c l m=DN (l.length:Int) (m.length:Int)
 | [],[],_=>by simp[E6,DN]
 | [],_::_,_=>by simp[E6,DN]<;>omega
 |_::_,[],_=>by simp[E6,DN]<;>omega
 | x::l,y::m,h=>by
  have h0:=h 0 x y rfl rfl;simp only[E6,h0,if_true];rw[XZ (λi u v hu hv=>h (i+1) u v (by simpa using hu) (by simpa using hv))];unfold DN;simp only[List.length_cons]
  split<;>split<;>(try split)<;>(try split)<;>omega
theorem nB:Cmpr GX:=by
 constructor
 ·intro a b;have k1:=LW.anti (pI a) (pI b);have c:=UX.anti a b;unfold GX
  cases h1:pO a<;>cases d:pO b<;>simp[k1,c]
 ·intro x y z;have k1:=LW.le (pI x) (pI y) (pI z);have c:=UX.le x y z;unfold GX
  cases h1:pO x<;>cases d:pO y<;>cases e:pO z<;>simp<;>first|exact k1|exact c|omega
theorem X0:∀(l m:List ByteArray),cmpL l m=E6 GX l m
 | [],[]=>by simp[cmpL,E6]
 | [],_::_=>by simp[cmpL,E6]
 |_::_,[]=>by simp[cmpL,E6]
 |a::l,b::m=>by simp only[cmpL,E6,X0 l m]
theorem J1:Cmpr HS:=by
 have h:Cmpr (NV (λf g:Fact=>PT f.Rel g.Rel) (λf g=>E6 GX f.Args g.Args)):=(UX.pull Fact.Rel).lex (nB.list.pull Fact.Args);have e:∀f g:Fact,HS f g=NV (λf g:Fact=>PT f.Rel g.Rel) (λf g=>E6 GX f.Args g.Args) f g:=λf g=>by
  unfold HS NV
  dsimp only
  rw[X0]
  by_cases hr:f.Rel=g.Rel
  ·simp only[hr,UI,if_true]
  ·rw[if_neg hr,if_neg (rW hr)]
 exact⟨λa b=>by rw[e,e];exact h.anti a b,λx y z=>by rw[e,e,e];exact h.le x y z⟩
def WH(a b:List Fact):Int:=E6 HS a b
def HF:List Int->List Int->Int
 |x::a,y::b=>if x=y then HF a b else DN y x
 |a,b=>DN (b.length:Int) (a.length:Int)
theorem TB:∀(a b:List Int),HF a b= -E6 DN a b
 | [],[]=>by simp[HF,E6,DN]
 | [],_::_=>by simp[HF,E6,DN]<;>omega
 |_::_,[]=>by simp[HF,E6,DN]<;>omega
 | x::a,y::b=>by
  simp only[HF,E6];rw[TB a b];unfold DN
  split<;>split<;>(try split)<;>(try split)<;>omega
theorem nC:Cmpr HF:=by
 have h:=LW.list;exact⟨λa b=>by rw[TB,TB,h.anti a b],λx y z h1 c=>by
  rw[TB] at h1 c⊢;have d:=h.anti x y;have a2:=h.anti y z;have a3:=h.anti x z;have:=h.le z y x (by omega) (by omega)
  omega⟩
theorem Z5{a b:List Int}{k:Nat}{x y:Int}(e:∀i,i<k->a[i]?=b[i]?)(c:a[k]?=some x)(hb:b[k]?=some y)(d:x≠y):HF a b=DN y x:=by
 induction k generalizing a b with
 | zero=>
  match a,b with
  | u::a,v::b=>
   simp only[List.getElem?_cons_zero,Option.some.injEq] at c hb;subst c;subst hb;simp[HF,d]
  | [],_=>simp at c
  |_::_,[]=>simp at hb
 | succ k ih=>
  match a,b with
  | u::a,v::b=>
   have h0:=e 0 (by omega);simp only[List.getElem?_cons_zero,Option.some.injEq] at h0;simp only[List.getElem?_cons_succ] at c hb;simp only[HF,h0,if_true];exact ih (λi h=>by have:=e (i+1) (by omega);simpa using this) c hb
  | [],_=>simp at c
  |_::_,[]=>simp at hb
theorem QS{a b:List Int}(c:∀i,i<a.length->i<b.length->a[i]?=b[i]?):HF a b=DN (b.length:Int) (a.length:Int):=by
 induction a generalizing b with
 |nil=>cases b<;>simp[HF]
 | cons u a ih=>
  match b with
  | []=>simp[HF]
  | v::b=>
   have h0:=c 0 (by simp) (by simp);simp only[List.getElem?_cons_zero,Option.some.injEq] at h0;simp only[HF,h0,if_true];rw[ih (λi h1 d=>by have:=c (i+1) (by simpa using h1) (by simpa using d);simpa using this)];simp only[List.length_cons];unfold DN
   split<;>split<;>(try split)<;>(try split)<;>omega
theorem kN{a b:List Fact}{k:Nat}{x y:Fact}(d:∀i,i<k->∀u v,a[i]?=some u->b[i]?=some v->HS u v=0)(e:a[k]?=some x)(hb:b[k]?=some y)(c:HS x y≠0):HS x y=WH a b:=(dV d e hb c).symm
theorem JB{a b:List Fact}(c:∀i,i<a.length->i<b.length->∀u v,a[i]?=some u->b[i]?=some v->HS u v=0):DN (a.length:Int) (b.length:Int)=WH a b:=
 (XZ (λi u v hu hv=>c i (lS hu) (lS hv) u v hu hv)).symm
def JC(a b:Choice):Int:=NV (λa b:Choice=>DN b.Priority a.Priority) (NV (λa b=>HF (AP a.Times) (AP b.Times)) (NV (λa b=>DN b.Specific a.Specific) (NV (λa b=>DN a.Order b.Order) (λa b=>WH a.Match.Facts b.Match.Facts)))) a b
theorem RQ:Cmpr JC:=
 (LW.flip.pull Choice.Priority).lex ((nC.pull (λc:Choice=>AP c.Times)).lex ((LW.flip.pull Choice.Specific).lex ((LW.pull Choice.Order).lex (J1.list.pull (λc:Choice=>c.Match.Facts)))))
abbrev yK(a b:Choice):Bool:=decide (JC a b<0)
theorem nD{α:Type}{c:α->α->Int}(h:Cmpr c):Ordr (λa b=>decide (c a b<0)) where
 asym x y h1:=by
  have:=h.anti x y;simp only[decide_eq_true_eq] at h1;simp only[decide_eq_false_iff_not];omega
 trans x y z h1 d:=by
  simp only[decide_eq_false_iff_not] at h1 d⊢;have e:=h.anti x y;have a2:=h.anti y z;have a3:=h.anti x z;have:=h.le x y z (by omega) (by omega);omega
theorem tJ:Ordr yK:=nD RQ
theorem nE{α β:Type}{lt:α->α->Bool}(h:Ordr lt)(f:β->α):Ordr (λa b=>lt (f a) (f b)):=⟨λ_ _=>h.asym _ _,λ_ _ _=>h.trans _ _ _⟩
def BY(l:List Choice):List Choice:=MR yK l
theorem UY(l:List Choice):List.Perm (BY l) l:=MH _ l
instance:Inhabited Choice:=⟨⟨⟨⟨#[]⟩,[],[]⟩,0,[],0,0⟩⟩
theorem kO{d:List Choice}{i:Int}{x:Choice}(h:d[i.toNat]?=some x):A d i.toNat=x:=KI h
theorem UZ{x y:Int}(h:x≠y):DN x y≠0:=by unfold DN;split<;>(try split)<;>omega
theorem QT(x:Int):DN x x=0:=by unfold DN;simp
theorem A5o{a b:Choice}(h:a.Priority≠b.Priority):DN b.Priority a.Priority=JC a b:=by
 unfold JC NV;dsimp only;rw[if_neg (UZ (Ne.symm h))]
theorem A1B{a b:Choice}(h:a.Priority=b.Priority)(c:HF (AP a.Times) (AP b.Times)≠0):HF (AP a.Times) (AP b.Times)=JC a b:=by
 unfold JC NV;simp only[h,QT,if_true,if_neg c]
theorem A1C{a b:Choice}(h:a.Priority=b.Priority)(c:HF (AP a.Times) (AP b.Times)=0)(d:a.Specific≠b.Specific):DN b.Specific a.Specific=JC a b:=by
 unfold JC NV;simp only[h,QT,c,if_true,if_neg (UZ (Ne.symm d))]
theorem A1D{a b:Choice}(h:a.Priority=b.Priority)(c:HF (AP a.Times) (AP b.Times)=0)(d:a.Specific=b.Specific)(e:a.Order≠b.Order):DN a.Order b.Order=JC a b:=by
 unfold JC NV;simp only[h,QT,c,d,if_true,if_neg (UZ e)]
theorem A1E{a b:Choice}(h:a.Priority=b.Priority)(c:HF (AP a.Times) (AP b.Times)=0)(d:a.Specific=b.Specific)(e:a.Order=b.Order):WH a.Match.Facts b.Match.Facts=JC a b:=by
 unfold JC NV;simp only[h,QT,c,d,e,if_true]
theorem RS{a b:List Int}(c:∀i,i<a.length->i<b.length->a[i]?=b[i]?)(hl:a.length=b.length):HF a b=0:=by
 rw[QS c];unfold DN;simp[hl]
theorem A2X{a b:Choice}{k:Nat}{x y:Int}(h:a.Priority=b.Priority)(d:∀i,i<k->(AP a.Times)[i]?=(AP b.Times)[i]?)(f:(AP a.Times)[k]?=some x)(g:(AP b.Times)[k]?=some y)(c:x≠y):DN y x=JC a b:=by
 have e:=Z5 d f g c;rw[<-A1B h (by rw[e];exact UZ (Ne.symm c)),e]
theorem tL{a b:Choice}(h:a.Priority=b.Priority)(c:∀i,i<(AP a.Times).length->i<(AP b.Times).length->(AP a.Times)[i]?=(AP b.Times)[i]?)(d:(AP a.Times).length≠(AP b.Times).length):DN ((AP b.Times).length:Int) ((AP a.Times).length:Int)=JC a b:=by
 have e:=QS c;rw[<-A1B h (by rw[e];exact UZ (by omega)),e]
theorem U0{l:List Choice}{k:Nat}(h:l.length<=k):BY (l.take k)=BY l:=by rw[List.take_of_length_le h]
theorem B1t{α:Type}{c:α->Nat}{l m:List α}(h:List.Perm l m):AI c l=AI c m:=by
 induction h with
 |nil=>rfl
 |cons x _ ih=>simp only[AI,List.map_cons,List.sum_cons] at*;omega
 |swap x y l=>simp only[AI,List.map_cons,List.sum_cons];omega
 |trans _ _ h1 a=>omega
theorem tO{l:List Choice}{x:Choice}:x∈BY l↔x∈l:=(UY l).mem_iff
end Go.Sy
end
