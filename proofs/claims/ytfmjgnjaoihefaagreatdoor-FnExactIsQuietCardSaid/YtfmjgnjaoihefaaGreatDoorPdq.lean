/-
  Rows that are sorted by exchanges: what the parts of the library's quicksort leave, as plain facts on lists.
  Conditions: those that each theorem states.
-/
import Derived.Test.YtfmjgnjaoihefaaGreatDoorSort
import Derived.Test.YtfmjgnjaoihefaaGreatDoorOwn2
import Derived.Laws.MathBits
import Derived.Lib.BitFns
namespace Go.Sy
section
variable {α:Type} [Inhabited α] {lt:α->α->Bool}
theorem Chg.get{d e:List α}{a b:Nat}(h:Chg d e a b){φ:α->Prop}(hp:∀p,a<=p->p<b->φ (A d p)):∀p,a<=p->p<b->φ (A e p):=λp h1 c=>by
 obtain⟨j,f,g,i⟩:=h.mem p h1 c;rw[i];exact hp j f g
def Sft(lt:α->α->Bool)(d:List α)(f lo hi r:Nat):Prop:=(∀p c,lo<=p->p≠r->(c=2*p+1\/c=2*p+2)->c<hi->lt (A d (f+p)) (A d (f+c))=false)/\
 (∀p c,lo<=p->(r=2*p+1\/r=2*p+2)->(c=2*r+1\/c=2*r+2)->c<hi->lt (A d (f+p)) (A d (f+c))=false)
theorem Sft.at{d:List α}{f lo a r b:Nat}(h:Sft lt d f lo a r)(e:r=b):Sft lt d f lo a b:=e▸h
theorem XY{d:List α}{n:Nat}(h:n<=1):FI lt d 0 n:=λp q h1 a b=>by omega
end
end Go.Sy
namespace Go.Sy
open Go Go.RowKit
structure Srx {α:Type} [Inhabited α] (P:Program) (C:List α->Chunk) (lt:α->α->Bool) (d0:List α) (dv:Value) (w0:World):Prop where
  len:∀(Hs:List Chunk) (w:World) (d:List α),List.Perm d d0->St w0 (C d::Hs) w->∃f C4k,AA P f=true/\(callMethod dv "Len" #[]).run P w=(callFunc f C4k).run P w/\Calls P f C4k w (λe w'=>e= .returned (.int .i64 (d0.length:Int))/\St w0 (C d::Hs) w')
  less:∀(Hs:List Chunk) (w:World) (d:List α) (i j:Nat),List.Perm d d0->i<d0.length->j<d0.length->St w0 (C d::Hs) w->
    ∃f C4k,AA P f=true/\(callMethod dv "Less" #[Value.int .i64 (i:Int),Value.int .i64 (j:Int)]).run P w=(callFunc f C4k).run P w/\Calls P f C4k w (λe w'=>e= .returned (.bool (lt (A d i) (A d j)))/\St w0 (C d::Hs) w')
  swap:∀(Hs:List Chunk) (w:World) (d:List α) (i j:Nat),List.Perm d d0->i<d0.length->j<d0.length->St w0 (C d::Hs) w->
    ∃f C4k,AA P f=true/\(callMethod dv "Swap" #[Value.int .i64 (i:Int),Value.int .i64 (j:Int)]).run P w=(callFunc f C4k).run P w/\Calls P f C4k w (λe w'=>e= .returned (.tuple #[])/\St w0 (C (swp d i j)::Hs) w')
section
variable {P:Program} {N:Nat} {w0:World} {H:List Chunk} {L:Fm} {Q:Exit->Act->World->Prop} {o:Oper} {dd:Nat} {K:Act->World->Prop}
theorem A2T{x:Operand}{nm:String}{C4k:List Operand}{vs:List Value}{v:Value}{b:Array TypeId}{a:Act}{w:World}(c:Fits a N L)
  (e:o.op= .call ⟨.invoke x nm,C4k.toArray,b⟩) (f:ev L x=some v) (g:evs L C4k=some vs):(execOp a.eval o).run P w=(callMethod v nm vs.toArray).run P w:=by
 unfold execOp;rw[e];have he:(C4k.toArray.map a.eval)=vs.toArray:=by rw[List.map_toArray,c.evs g]
 simp only[resolve,c.ev f,he,Sem.run_bind,Sem.run_pure,Result.andThen_ok,invoke];simp
theorem yH{x:Operand}{nm:String}{C4k:List Operand}{vs:List Value}{v r:Value}{b:Array TypeId}{H':List Chunk}(g:o.op= .call ⟨.invoke x nm,C4k.toArray,b⟩)(c:ev L x=some v)(h:evs L C4k=some vs)(hd:o.dst=some dd)(i:Nat.blt dd N=true)
  (hc:∀w,St w0 H w->∃f bs,AA P f=true/\(callMethod v nm vs.toArray).run P w=(callFunc f bs).run P w/\Calls P f bs w (λe w'=>e= .returned r/\St w0 H' w'))
  (k:D N w0 H' ((dd,r)::L) K):D N w0 H L (λa w=>o.wp P a w K Q):=by
 intro a w hf hs;show o.wp P a w K Q;obtain⟨f,bs,hb,h1,hc⟩:=hc w hs;have j:=A2T (P:=P) (w:=w) hf g c h;unfold AA at hb
 split at hb
 ·rename_i fn hfn;simp only[Bool.and_eq_true,Bool.not_eq_true'] at hb;have hrun:(execOp a.eval o).run P w= .ok (.enter f bs) w:=by
   rw[j,h1];have hbody:fn.body.isNone=false:=by rw[<-Option.not_isSome,hb.2];rfl
   have hnm:¬fn.name= "runtime.NumGoroutine" :=by simpa using hb.1
   have hbn:¬fn.body=none:=by intro e;rw[e] at hbody;cases hbody
   simp only[callFunc,program];simp[Sem.run,hfn,hnm,hbn]
  unfold Oper.wp;rw[hrun,Oper.upon_enter];refine hc.mono λe w' he=>?_
  obtain⟨rfl,c⟩:=he;simp only;rw[hd];exact k _ _ (hf.put i _) c
 ·cases hb
section
variable {α:Type} [Inhabited α] {C:List α->Chunk} {lt:α->α->Bool} {d0 d:List α} {dv:Value}
theorem A5l(S:Srx P C lt d0 dv w0)(hp:List.Perm d d0){x:Operand}{C4k:List Operand}{b:Array TypeId}{i j:Nat}
  (c:o.op= .call ⟨.invoke x "Less",C4k.toArray,b⟩) (e:ev L x=some dv) (f:evs L C4k=some [Value.int .i64 (i:Int),Value.int .i64 (j:Int)]) (hd:o.dst=some dd) (g:Nat.blt dd N=true)
  (h:i<d0.length) (l:j<d0.length) (k:D N w0 (C d::H) ((dd, .bool (lt (A d i) (A d j)))::L) K):D N w0 (C d::H) L (λa w=>o.wp P a w K Q):=
 yH c e f hd g (λw hs=>S.less H w d i j hp h l hs) k
theorem A5m(S:Srx P C lt d0 dv w0)(hp:List.Perm d d0){x:Operand}{C4k:List Operand}{b:Array TypeId}{i j:Nat}
  (c:o.op= .call ⟨.invoke x "Swap",C4k.toArray,b⟩) (e:ev L x=some dv) (f:evs L C4k=some [Value.int .i64 (i:Int),Value.int .i64 (j:Int)]) (hd:o.dst=some dd) (g:Nat.blt dd N=true)
  (h:i<d0.length) (l:j<d0.length) (k:D N w0 (C (swp d i j)::H) ((dd, .tuple #[])::L) K):D N w0 (C d::H) L (λa w=>o.wp P a w K Q):=
 yH c e f hd g (λw hs=>S.swap H w d i j hp h l hs) k
theorem A7f(S:Srx P C lt d0 dv w0)(hp:List.Perm d d0){x:Operand}{b:Array TypeId}
  (c:o.op= .call ⟨.invoke x "Len", #[],b⟩) (e:ev L x=some dv) (hd:o.dst=some dd) (f:Nat.blt dd N=true)
  (k:D N w0 (C d::H) ((dd, .int .i64 (d0.length:Int))::L) K):D N w0 (C d::H) L (λa w=>o.wp P a w K Q):=
 yH (C4k:=[]) c e rfl hd f (λw hs=>S.len H w d hp hs) k
omit [Inhabited α] in
theorem cix{σ:Type}{val:σ->Value}{J:σ->List α->Prop}{H':σ->List Chunk}{f:Nat}{C4k:List Operand}{vs:List Value}{b:Array TypeId}(hb:AA P f=true)
  (c:o.op= .call ⟨.value (.func f),C4k.toArray,b⟩) (g:evs L C4k=some vs) (hd:o.dst=some dd) (h:Nat.blt dd N=true)
  (hc:∀w,St w0 (C d::H) w->Calls P f vs.toArray w (λe w'=>∃s e',J s e'/\e= .returned (val s)/\St w0 (C e'::H' s) w'))
  (k:∀s e',J s e'->D N w0 (C e'::H' s) ((dd,val s)::L) K):D N w0 (C d::H) L (λa w=>o.wp P a w K Q):=
 K7 (σ:=σ × List α) (val:=λp=>val p.1) (H':=λp=>C p.2::H' p.1) (J:=λp=>J p.1 p.2) hb c g hd h
  (λw hs=>(hc w hs).mono λ_ _ ⟨s,e',h1,i,j⟩=>⟨(s,e'),i,h1,j⟩) (λp hp=>k p.1 p.2 hp)
omit [Inhabited α] in
end
end
end Go.Sy
namespace Go.Sy
open Go Go.RowKit
def SZ(P:Program)(t:TypeId)(nm:String):Option (Array FieldStep × Option (FuncId × Bool)):=(P.info? t).bind λi=>(i.methods.find? (λm=>m.name==nm)).map λm=>(m.path,m.func)
theorem PO{P:Program}{t:TypeId}{nm:String}{p:Array FieldStep}{f:Option (FuncId × Bool)}(h:SZ P t nm=some (p,f)):∃i m,P.info? t=some i/\i.methods.find? (λm=>m.name==nm)=some m/\m.path=p/\m.func=f:=by
 unfold SZ at h;simp only[Option.bind_eq_some_iff,Option.map_eq_some_iff,Prod.mk.injEq] at h;obtain⟨i,hi,m,hm,h1,a⟩:=h;exact⟨i,m,hi,hm,h1,a⟩
theorem dR{P:Program}{n:Nat}{t e:TypeId}{v:Value}{nm:String}{f:FuncId}{w:World}(a:SZ P t nm=some (#[],some (f,false)))(hu:P.underlying t=some (.slice e)):(method (n+1) t v nm).run P w= .ok (f,v) w:=by
 obtain⟨i,m,hi,h1,b,c⟩:=PO a;unfold method;simp[typeInfo,hi,h1,b,c,follow,receiverAt,run_underlying hu,Place.get]
theorem tC{P:Program}{n:Nat}{t e:TypeId}{a:Addr}{r:Value}{nm:String}{f:FuncId}{w:World}(b:SZ P t nm=some (#[],some (f,false)))(hu:P.underlying t=some (.pointer e))(hl:(loadVar e a).run P w= .ok r w):(method (n+1) t (.pointer (some a)) nm).run P w= .ok (f,r) w:=by
 obtain⟨i,m,hi,h1,c,g⟩:=PO b;unfold method;have hc:∀h j:String,Builtin.ssaWrapNilChk_ #[t] t #[.pointer (some a),strVal h,strVal j]=pure (.pointer (some a)):=λ_ _=>rfl
 simp[typeInfo,hi,h1,c,g,follow,receiverAt,run_underlying hu,Place.get,hc,asAddr,hl]
theorem tF{P:Program}{n:Nat}{t s e:TypeId}{a:Addr}{v':Value}{nm:String}{fs:Array Field}{fl:Field}{w:World}(f:SZ P t nm=some (#[⟨s,0,true⟩],none))(g:P.underlying s=some (.struct fs))(h:fs[0]?=some fl)(j:fl.offset=0)(k:∃i,P.info? fl.type=some i/\i.size=1)
  (hl:(loadVar fl.type (a.add 0)).run P w= .ok (.iface e v') w):(method (n+1) t (.pointer (some a)) nm).run P w=(method n e v' nm).run P w:=by
 obtain⟨i,m,hi,h1,l,p⟩:=PO f;obtain⟨i2,b,c⟩:=k;rw[method];simp[typeInfo,hi,h1,l,p,follow,run_underlying g,h,Place.get,asAddr,fieldPlace,sizeOf,b,c,j,hl]
theorem ZZ{P:Program}{t:TypeId}{v r:Value}{nm:String}{f:FuncId}{args:Array Value}{w:World}(h:(method (P.types.size+Made.depth) t v nm).run P w= .ok (f,r) w):(callMethod (.iface t v) nm args).run P w=(callFunc f (#[r]++args)).run P w:=by
 have e:(callMethod (.iface t v) nm args)=(program>>=λp=>method (p.types.size+Made.depth) t v nm>>=λx=>callFunc x.1 (#[x.2]++args)):=rfl;have a:Sem.run P program w= .ok P w:=rfl;rw[e,Sem.run_bind,a,Result.andThen_ok,Sem.run_bind,h,Result.andThen_ok]
section
variable {P:Program} {N:Nat} {w0:World} {H:List Chunk} {L:Fm} {Q:Exit->Act->World->Prop} {o:Oper} {dd:Nat} {K:Act->World->Prop} {c1 c2:Chunk}
theorem A0z(k:D N w0 (star c1 c2::H) L K):D N w0 (c1::c2::H) L K:=λa w hf hs=>k a w hf hs.star
theorem A1A(k:D N w0 (c1::c2::H) L K):D N w0 (star c1 c2::H) L K:=λa w hf hs=>k a w hf hs.split
theorem A5n{t e:TypeId}{x:Operand}{v:Value}(b:P.underlying t=some (.pointer e))(c:o.op= .makeInterface t x)(f:ev L x=some v):C2 P N w0 H L o (.iface t v):=λa w hf _=>by
 unfold execOp;rw[c];simp[Instr.makeInterface,hf.ev f,run_underlying b]
end
abbrev tG(x y:Int):Bool:=decide (y<x)
theorem gQ:Ordr tG:=⟨λx y h=>by simp only[tG,decide_eq_true_eq,decide_eq_false_iff_not] at*;omega,λx y z h1 a=>by simp only[tG,decide_eq_false_iff_not] at*;omega⟩
def AP(l:List Int):List Int:=MR tG l
theorem yI{l e:List Int}(hp:List.Perm e l)(a:FI tG e 0 l.length):e=AP l:=by
 have hlen:=hp.length_eq;refine LH (lt:=tG) (λx y h1 b=>by simp only[tG,decide_eq_false_iff_not] at h1 b;omega) (hp.trans (MH _ l).symm) (A2Q (by rw[hlen];exact a)) (UV gQ.asym gQ.trans l)
theorem QP(l:List Int):(AP l).length=l.length:=XT _ l
theorem mX(l:List Int):[]=AP (l.take 0):=rfl
theorem tH{l:List Int}{i k:Nat}{x:Int}(h:l[i]?=some x)(hk:k<=i)(b:∀p,k<=p->∀y,(AP (l.take i))[p]?=some y->y<x)(a:k=0\/∃y,(IF (AP (l.take i)) x k)[k-1]?=some y/\¬y<x):(IF (AP (l.take i)) x k).set k x=AP (l.take (i+1)):=by
 have hl:(AP (l.take i)).length=i:=by rw[QP,List.length_take];have:=lS h;omega
 unfold AP at*;rw[kK (lt:=tG) gQ.asym gQ.trans (UV gQ.asym gQ.trans _) (by omega) (λp hp y hy=>by simpa [tG] using b p hp y hy) (by
  rcases a with a|⟨y,h1,c⟩
  ·exact .inl a
  ·exact .inr ⟨y,h1,by simp only[tG,decide_eq_false_iff_not];exact c⟩)]
 exact kG h
theorem mY{l:List Int}{k:Nat}(h:l.length<=k):AP (l.take k)=AP l:=by rw[List.take_of_length_le h]
end Go.Sy
