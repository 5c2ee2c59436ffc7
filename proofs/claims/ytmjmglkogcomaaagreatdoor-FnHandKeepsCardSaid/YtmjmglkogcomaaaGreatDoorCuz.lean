/-
  Cursors beside frozen memory: what is drawn is only read.
  Conditions: none.
-/
import Derived.Test.YtmjmglkogcomaaaGreatDoorTypes
namespace Go.Sy
open Go Go.RowKit
section
variable {P:Program} {N:Nat} {w0:World} {H:List Chunk} {L:Fm} {Q:Exit->Act->World->Prop} {o:Oper} {d:Nat} {K:Act->World->Prop} {wz wb:World}
theorem C1B{α β:Type} [Gd α] [Gd β]{c:Chunk}{φ:α->β->Prop}{f:Nat}{C4k:List Operand}{vs:List Value}{g:Array TypeId}(hb:AA P f=true)
  (h:o.op= .call ⟨.value (.func f),C4k.toArray,g⟩) (i:evs L C4k=some vs) (hd:o.dst=some d) (j:Nat.blt d N=true)
  (hc:∀w,St w0 (fz wz wb::c::H) w->Calls P f vs.toArray w (λe w'=>∃(x:α) (y:β) (c1 c2:List Value) (wb':World),φ x y/\E4 wb wb'/\Gd.rd wb' c1 x/\Gd.rd wb' c2 y/\e= .returned (.tuple #[Gd.vl α c1,Gd.vl β c2])/\St w0 (fz wz wb'::c::H) w'))
  (k:∀x y c1 c2 wb',φ x y->E4 wb wb'->Gd.rd wb' c1 x->Gd.rd wb' c2 y->D N w0 (fz wz wb'::c::H) ((d, .tuple #[Gd.vl α c1,Gd.vl β c2])::L) K):D N w0 (fz wz wb::c::H) L (λa w=>o.wp P a w K Q):=
 K7 (σ:=(α × β)×(List Value × List Value)× World) (val:=λs=> .tuple #[Gd.vl α s.2.1.1,Gd.vl β s.2.1.2]) (H':=λs=>fz wz s.2.2::c::H) (J:=λs=>φ s.1.1 s.1.2/\E4 wb s.2.2/\Gd.rd s.2.2 s.2.1.1 s.1.1/\Gd.rd s.2.2 s.2.1.2 s.1.2) hb h i hd j
  (λw b=>(hc w b).mono λ_ _ ⟨x,y,c1,c2,wb',h1,l,m,n,he,hst⟩=>⟨((x,y),(c1,c2),wb'),he,⟨h1,l,m,n⟩,hst⟩) (λs b=>k s.1.1 s.1.2 s.2.1.1 s.2.1.2 s.2.2 b.1 b.2.1 b.2.2.1 b.2.2.2)
theorem C8m{α:Type} [Gd α]{c:Chunk}{φ:α->Prop}{f:Nat}{C4k:List Operand}{vs:List Value}{g:Array TypeId}(hb:AA P f=true)
  (h:o.op= .call ⟨.value (.func f),C4k.toArray,g⟩) (i:evs L C4k=some vs) (hd:o.dst=some d) (j:Nat.blt d N=true)
  (hc:∀w,St w0 (fz wz wb::c::H) w->Calls P f vs.toArray w (λe w'=>∃(y:α) (cs:List Value) (wb':World),φ y/\E4 wb wb'/\e= .returned (Gd.vl α cs)/\St w0 (ov cs y::fz wz wb'::c::H) w'))
  (k:∀y cs wb',φ y->E4 wb wb'->D N w0 (ov cs y::fz wz wb'::c::H) ((d,Gd.vl α cs)::L) K):D N w0 (fz wz wb::c::H) L (λa w=>o.wp P a w K Q):=
 K7 (σ:=α × List Value × World) (val:=λs=>Gd.vl α s.2.1) (H':=λs=>ov s.2.1 s.1::fz wz s.2.2::c::H) (J:=λs=>φ s.1/\E4 wb s.2.2) hb h i hd j
  (λw b=>(hc w b).mono λ_ _ ⟨y,cs,wb',h1,l,he,hst⟩=>⟨(y,cs,wb'),he,⟨h1,l⟩,hst⟩) (λs b=>k s.1 s.2.1 s.2.2 b.1 b.2)
theorem C1C{α β:Type} [Gd α] [Gd β]{φ:α->β->Prop}{f:Nat}{C4k:List Operand}{vs:List Value}{c:Array TypeId}(hb:AA P f=true)
  (i:o.op= .call ⟨.value (.func f),C4k.toArray,c⟩) (j:evs L C4k=some vs) (hd:o.dst=some d) (l:Nat.blt d N=true) (m:E4 wz w0)
  (hc:∀w,E4 wb w->Ex w0 w->Calls P f vs.toArray w (λe w'=>∃(x:α) (y:β),φ x y/\B2v wb w x y e w'))
  (k:∀x y c1 c2 wb',φ x y->E4 wb wb'->Gd.rd wb' c1 x->Gd.rd wb' c2 y->D N w0 (fz wz wb'::H) ((d, .tuple #[Gd.vl α c1,Gd.vl β c2])::L) K):D N w0 (fz wz wb::H) L (λa w=>o.wp P a w K Q):=
 K7 (σ:=(α × β)×(List Value × List Value)× World) (val:=λs=> .tuple #[Gd.vl α s.2.1.1,Gd.vl β s.2.1.2]) (H':=λs=>fz wz s.2.2::H) (J:=λs=>φ s.1.1 s.1.2/\E4 wb s.2.2/\Gd.rd s.2.2 s.2.1.1 s.1.1/\Gd.rd s.2.2 s.2.1.2 s.1.2) hb i j hd l
  (λw h=>(hc w (Q0 (k:=0) m h rfl) h.bel).mono λ_ _ ⟨x,y,h1,c1,c2,wb',he,hzk,hr,g⟩=>⟨((x,y),(c1,c2),wb'),he,⟨h1,hzk.2.1,hr,g⟩,aP h hzk⟩) (λs b=>k s.1.1 s.1.2 s.2.1.1 s.2.1.2 s.2.2 b.1 b.2.1 b.2.2.1 b.2.2.2)
theorem C0u{x y:Operand}{m n:Int}{b:Array TypeId}(c:o.op= .call ⟨.builtin .min, #[x,y],b⟩)(f:ev L x=some (.int .i64 m))(g:ev L y=some (.int .i64 n)):C2 P N w0 H L o (.int .i64 (min m n)):=by
 intro a w hf _;have e:(if n<m then n else m)=min m n:=by omega
 unfold execOp;rw[c];simp[resolve,invoke,builtin,hf.ev f,hf.ev g,run_min_int2,e]
end
end Go.Sy
