/-
  Cursors beside frozen memory: what is drawn is only read.
  Conditions: none.
-/
import Derived.Test.YtbnpgdcpbmaebaaGreatDoorTypes
import Derived.Test.YtbnpgdcpbmaebaaGreatDoorOwn2
import Derived.Test.YtbnpgdcpbmaebaaGreatDoorCur
import Derived.Great.BuildSlice
namespace Go.Sy
open Go Go.RowKit
theorem B8I(b:Nat):∀(c pre tail:List Value) (j:Nat),pre.length=b+j->c.length<=tail.length->
  (c.zipIdx j).foldl (λ(cs:Array Value) (x:Value × Nat)=>cs.setIfInBounds (b+x.2) x.1) (pre++tail).toArray=(pre++c++tail.drop c.length).toArray
 | [],pre,tail,j,h,hl=>by simp
 |u::c,pre,[],j,h,hl=>by simp at hl
 | u::c,pre,t::tail,j,h,hl=>by
  simp only[List.zipIdx_cons,List.foldl_cons];have e:(pre++t::tail).toArray.setIfInBounds (b+j) u=((pre++ [u])++tail).toArray:=by
   rw[<-h];simp
  rw[e,B8I b c (pre++ [u]) tail (j+1) (by simp;omega) (by simpa using hl)];simp
theorem B9M(n:Nat):∀(vs:List Value) (css:List (List Value)) (pre tail:List Value) (k:Nat),pre.length=k*n->tail.length=vs.length*n->vs.length=css.length->
  (∀(i:Nat) v c,vs[i]?=some v->css[i]?=some c->v.cells=c.toArray/\c.length=n)->
  Instr.fill (λi=>some (i*n,n)) (pre++tail).toArray ((vs.zipIdx k).map (λp=>(p.2,p.1)))=some (pre++css.flatten).toArray
 | [],[],pre,tail,k,h1,b,a,hc=>by
  have:tail=[]:=List.eq_nil_of_length_eq_zero (by simpa using b);subst this;simp[Instr.fill]
 | [],c::css,pre,tail,k,h1,b,a,hc=>by simp at a
 |v::vs,[],pre,tail,k,h1,b,a,hc=>by simp at a
 | v::vs,c::css,pre,tail,k,h1,b,a,hc=>by
  obtain⟨hv,hl⟩:=hc 0 v c rfl rfl;have h2':tail.length=vs.length*n+n:=by rw[b,List.length_cons,Nat.add_mul,Nat.one_mul]
  have e:=B8I (k*n) c pre tail 0 (by omega) (by omega);have ih:=B9M n vs css (pre++c) (tail.drop c.length) (k+1) (by rw[List.length_append,Nat.add_mul,Nat.one_mul];omega) (by rw[List.length_drop];omega) (by simpa using a) (λi v' c' hv' hc'=>hc (i+1) v' c' (by simpa using hv') (by simpa using hc'));simp only[List.zipIdx_cons,List.map_cons,Instr.fill,hv];have hno:¬((decide (c.toArray.size≠n)||decide (k*n+c.toArray.size>(pre++tail).toArray.size))=true):=by
   simp[hl];omega
  rw[if_neg hno];have f:c.toArray.zipIdx.foldl (λcs (x:Value × Nat)=>cs.setIfInBounds (k*n+x.2) x.1) (pre++tail).toArray=(pre++c++tail.drop c.length).toArray:=by
   rw[<-e];simp
  rw[List.flatten_cons,<-List.append_assoc,<-ih,<-f]
section
variable {P:Program} {N:Nat} {w0:World} {H:List Chunk} {L:Fm} {Q:Exit->Act->World->Prop} {o:Oper} {d:Nat} {K:Act->World->Prop} {wz wb:World}
theorem ccz{α:Type} [Gd α]{c:Chunk}{φ:α->Prop}{f:Nat}{as:List Operand}{vs:List Value}{b:Array TypeId}(hb:AA P f=true)
  (g:o.op= .call ⟨.value (.func f),as.toArray,b⟩) (h:evs L as=some vs) (hd:o.dst=some d) (i:Nat.blt d N=true)
  (hc:∀w,St w0 (fz wz wb::c::H) w->Calls P f vs.toArray w (λe w'=>∃(y:α) (cs:List Value) (wb':World),φ y/\E4 wb wb'/\Gd.rd wb' cs y/\e= .returned (Gd.vl α cs)/\St w0 (fz wz wb'::c::H) w'))
  (k:∀y cs wb',φ y->E4 wb wb'->Gd.rd wb' cs y->D N w0 (fz wz wb'::c::H) ((d,Gd.vl α cs)::L) K):D N w0 (fz wz wb::c::H) L (λa w=>o.wp P a w K Q):=
 K7 (σ:=α × List Value × World) (val:=λs=>Gd.vl α s.2.1) (H':=λs=>fz wz s.2.2::c::H) (J:=λs=>φ s.1/\E4 wb s.2.2/\Gd.rd s.2.2 s.2.1 s.1) hb g h hd i
  (λw hs=>(hc w hs).mono λ_ _ ⟨y,cs,wb',h1,j,l,he,hst⟩=>⟨(y,cs,wb'),he,⟨h1,j,l⟩,hst⟩) (λs hs=>k s.1 s.2.1 s.2.2 hs.1 hs.2.1 hs.2.2)
theorem C1B{α β:Type} [Gd α] [Gd β]{c:Chunk}{φ:α->β->Prop}{f:Nat}{as:List Operand}{vs:List Value}{b:Array TypeId}(hb:AA P f=true)
  (g:o.op= .call ⟨.value (.func f),as.toArray,b⟩) (h:evs L as=some vs) (hd:o.dst=some d) (i:Nat.blt d N=true)
  (hc:∀w,St w0 (fz wz wb::c::H) w->Calls P f vs.toArray w (λe w'=>∃(x:α) (y:β) (c1 c2:List Value) (wb':World),φ x y/\E4 wb wb'/\Gd.rd wb' c1 x/\Gd.rd wb' c2 y/\e= .returned (.tuple #[Gd.vl α c1,Gd.vl β c2])/\St w0 (fz wz wb'::c::H) w'))
  (k:∀x y c1 c2 wb',φ x y->E4 wb wb'->Gd.rd wb' c1 x->Gd.rd wb' c2 y->D N w0 (fz wz wb'::c::H) ((d, .tuple #[Gd.vl α c1,Gd.vl β c2])::L) K):D N w0 (fz wz wb::c::H) L (λa w=>o.wp P a w K Q):=
 K7 (σ:=(α × β)×(List Value × List Value)× World) (val:=λs=> .tuple #[Gd.vl α s.2.1.1,Gd.vl β s.2.1.2]) (H':=λs=>fz wz s.2.2::c::H) (J:=λs=>φ s.1.1 s.1.2/\E4 wb s.2.2/\Gd.rd s.2.2 s.2.1.1 s.1.1/\Gd.rd s.2.2 s.2.1.2 s.1.2) hb g h hd i
  (λw hs=>(hc w hs).mono λ_ _ ⟨x,y,c1,c2,wb',h1,j,l,m,he,hst⟩=>⟨((x,y),(c1,c2),wb'),he,⟨h1,j,l,m⟩,hst⟩) (λs hs=>k s.1.1 s.1.2 s.2.1.1 s.2.1.2 s.2.2 hs.1 hs.2.1 hs.2.2.1 hs.2.2.2)
theorem C1C{α β:Type} [Gd α] [Gd β]{φ:α->β->Prop}{f:Nat}{as:List Operand}{vs:List Value}{b:Array TypeId}(hb:AA P f=true)
  (g:o.op= .call ⟨.value (.func f),as.toArray,b⟩) (h:evs L as=some vs) (hd:o.dst=some d) (i:Nat.blt d N=true) (j:E4 wz w0)
  (hc:∀w,E4 wb w->Ex w0 w->Calls P f vs.toArray w (λe w'=>∃(x:α) (y:β),φ x y/\B2v wb w x y e w'))
  (k:∀x y c1 c2 wb',φ x y->E4 wb wb'->Gd.rd wb' c1 x->Gd.rd wb' c2 y->D N w0 (fz wz wb'::H) ((d, .tuple #[Gd.vl α c1,Gd.vl β c2])::L) K):D N w0 (fz wz wb::H) L (λa w=>o.wp P a w K Q):=
 K7 (σ:=(α × β)×(List Value × List Value)× World) (val:=λs=> .tuple #[Gd.vl α s.2.1.1,Gd.vl β s.2.1.2]) (H':=λs=>fz wz s.2.2::H) (J:=λs=>φ s.1.1 s.1.2/\E4 wb s.2.2/\Gd.rd s.2.2 s.2.1.1 s.1.1/\Gd.rd s.2.2 s.2.1.2 s.1.2) hb g h hd i
  (λw hs=>(hc w (Q0 (k:=0) j hs rfl) hs.bel).mono λ_ _ ⟨x,y,h1,c1,c2,wb',he,hzk,hr,c⟩=>⟨((x,y),(c1,c2),wb'),he,⟨h1,hzk.2.1,hr,c⟩,aP hs hzk⟩) (λs hj=>k s.1.1 s.1.2 s.2.1.1 s.2.1.2 s.2.2 hj.1 hj.2.1 hj.2.2.1 hj.2.2.2)
theorem C0u{x y:Operand}{m n:Int}{b:Array TypeId}(c:o.op= .call ⟨.builtin .min, #[x,y],b⟩)(f:ev L x=some (.int .i64 m))(g:ev L y=some (.int .i64 n)):C2 P N w0 H L o (.int .i64 (min m n)):=by
 intro a w hf _;have e:(if n<m then n else m)=min m n:=by omega
 unfold execOp;rw[c];simp[resolve,invoke,builtin,hf.ev f,hf.ev g,run_min_int2,e]
theorem C0R{α:Type} [Gd α] [Tid α]{wb:World}{t n b:Nat}{x1 x2 x3:Operand}{l v2 v3 z:Value}{m p y3:α}{c1 c2 c3:List Value}(r1:Gd.rd wb c1 m)(r2:Gd.rd wb c2 p)(r3:Gd.rd wb c3 y3)(j:AT P t=some (Tid.id α,n,b))(q:BV P (Tid.id α)=some z)(a3:z.cells.size=n)(a2:0<n)(a4:n<=4096)(s:Gd.n α=n)
  (ho:o.op= .buildSlice t 3 #[(0,x1),(1,x2),(2,x3)]) (h1:ev L x1=some l) (h2:ev L x2=some v2) (h3:ev L x3=some v3) (hd:o.dst=some d) (hN:Nat.blt d N=true) (x:l.cells=c1.toArray) (y:v2.cells=c2.toArray) (a0:v3.cells=c3.toArray)
  (k:∀v',D N w0 (oz wb v' [m,p,y3]::H) ((d,v')::L) K):D N w0 H L (λa w=>o.wp P a w K Q):=by
 subst s;have h:c1.length=Gd.n α:=Gd.rd_len r1;have r:c2.length=Gd.n α:=Gd.rd_len r2;have l3:c3.length=Gd.n α:=Gd.rd_len r3;unfold AT at j
 split at j
 ·rename_i e' he;simp only[Option.map_eq_some_iff,Prod.mk.injEq] at j;obtain⟨i,hi,e1,hsz,hby⟩:=j;subst e1;unfold BV at q;rw[hi] at q;simp only[Option.bind_some] at q;refine KQ hd hN (λa w hf hs=>⟨.slice (some ⟨w.heap.size,0,none⟩) 3 3,w.alloc (.cells (c1++c2++c3).toArray (Tid.id α)),?_,λa' hf'=>k _ a' _ hf'
   (hs.push (fp:=[w.heap.size]) (Ex.alloc w _) (c:=oz wb (.slice (some ⟨w.heap.size,0,none⟩) 3 3) [m,p,y3]) ?_ (by simp) (λg hg=>by simp only[List.mem_singleton] at hg;subst hg;simp))⟩)
  ·have hbase:((Array.range (3*Gd.n α)).map (z.cells[·%z.cells.size]!))=([]++((List.range (3*Gd.n α)).map (z.cells[·%z.cells.size]!))).toArray:=by
    simp[Array.toList_range,<-Array.toList_inj]
   have hfl:=B9M (Gd.n α) [l,v2,v3] [c1,c2,c3] [] ((List.range (3*Gd.n α)).map (z.cells[·%z.cells.size]!)) 0 (by simp) (by simp) rfl (λi v c hv hc=>by
    match i with
    |0=>cases hv;cases hc;exact⟨x,h⟩
    |1=>cases hv;cases hc;exact⟨y,r⟩
    |2=>cases hv;cases hc;exact⟨a0,l3⟩
    |i+3=>simp at hv)
   have hb:=run_buildSlice (P:=P) w t (Tid.id α) 3 #[(0,l),(1,v2),(2,v3)] (c1++c2++c3).toArray i z he hi q (by rw[hsz];omega) (by rw[hsz];omega) (by
    rw[hsz,hbase];simpa using hfl)
   unfold execOp;rw[ho];simp only[List.map_toArray,List.map_cons,List.map_nil,hf.ev h1,hf.ev h2,hf.ev h3];rw[Sem.run_bind,hb];rfl
  ·refine .inr ⟨w.heap.size,3,(c1++c2++c3).toArray,[[],[],[]],rfl,heap_alloc_new w _,Nat.le_refl 3,by simp[maxLen],by show(c1++c2++c3).toArray.size=3*Gd.n α;simp[h,r,l3];omega,by simp,rfl,λi u f hu hfp=>?_⟩
   match i with
   | 0=>
    obtain rfl:m=u:=Option.some.inj hu;obtain rfl:[]=f:=Option.some.inj hfp;have e:((c1++c2++c3).toArray.toList.drop (0*Gd.n α)).take (Gd.n α)=c1:=by
     simp[<-h]
    exact⟨by rw[show Gd.n (Z wb α)=Gd.n α from rfl,e];exact r1,rfl⟩
   | 1=>
    obtain rfl:p=u:=Option.some.inj hu;obtain rfl:[]=f:=Option.some.inj hfp;have e:((c1++c2++c3).toArray.toList.drop (1*Gd.n α)).take (Gd.n α)=c2:=by
     rw[Nat.one_mul];show((c1++c2++c3).drop _).take _=_;rw[List.append_assoc,<-h,List.drop_left,h,<-r,List.take_left]
    exact⟨by rw[show Gd.n (Z wb α)=Gd.n α from rfl,e];exact r2,rfl⟩
   | 2=>
    obtain rfl:y3=u:=Option.some.inj hu;obtain rfl:[]=f:=Option.some.inj hfp;have e:((c1++c2++c3).toArray.toList.drop (2*Gd.n α)).take (Gd.n α)=c3:=by
     have a1:2*Gd.n α=(c1++c2).length:=by rw[List.length_append,h,r];omega
     rw[a1];show((c1++c2++c3).drop _).take _=_;rw[List.drop_left,<-l3,List.take_length]
    exact⟨by rw[show Gd.n (Z wb α)=Gd.n α from rfl,e];exact r3,rfl⟩
   |i+3=>cases hu
 ·cases j
end
end Go.Sy
