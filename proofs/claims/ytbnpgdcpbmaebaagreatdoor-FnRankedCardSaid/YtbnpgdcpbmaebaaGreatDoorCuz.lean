/-
  Cursors beside frozen memory: what is drawn is only read.
  Conditions: none.
-/
import Derived.Test.YtbnpgdcpbmaebaaGreatDoorTypes
import Derived.Test.YtbnpgdcpbmaebaaGreatDoorOwn2
import Derived.Test.YtbnpgdcpbmaebaaGreatDoorCur
import Derived.Great.BuildSlice
namespace Go.Sy
open Go Go.RowKit
section
variable {P:Program} {N:Nat} {w0:World} {H:List Chunk} {L:Fm} {Q:Exit->Act->World->Prop} {o:Oper} {d:Nat} {K:Act->World->Prop} {wz wb:World}
theorem ccz{α:Type} [Gd α]{c:Chunk}{φ:α->Prop}{f:Nat}{C4k:List Operand}{vs:List Value}{b:Array TypeId}(hb:AA P f=true)
  (g:o.op= .call ⟨.value (.func f),C4k.toArray,b⟩) (h:evs L C4k=some vs) (hd:o.dst=some d) (i:Nat.blt d N=true)
  (hc:∀w,St w0 (fz wz wb::c::H) w->Calls P f vs.toArray w (λe w'=>∃(y:α) (cs:List Value) (wb':World),φ y/\E4 wb wb'/\Gd.rd wb' cs y/\e= .returned (Gd.vl α cs)/\St w0 (fz wz wb'::c::H) w'))
  (k:∀y cs wb',φ y->E4 wb wb'->Gd.rd wb' cs y->D N w0 (fz wz wb'::c::H) ((d,Gd.vl α cs)::L) K):D N w0 (fz wz wb::c::H) L (λa w=>o.wp P a w K Q):=
 K7 (σ:=α × List Value × World) (val:=λs=>Gd.vl α s.2.1) (H':=λs=>fz wz s.2.2::c::H) (J:=λs=>φ s.1/\E4 wb s.2.2/\Gd.rd s.2.2 s.2.1 s.1) hb g h hd i
  (λw hs=>(hc w hs).mono λ_ _ ⟨y,cs,wb',h1,j,l,he,hst⟩=>⟨(y,cs,wb'),he,⟨h1,j,l⟩,hst⟩) (λs hs=>k s.1 s.2.1 s.2.2 hs.1 hs.2.1 hs.2.2)
theorem C4f{α β γ:Type} [Gd α] [Gd β] [Gd γ]{c:Chunk}{φ:α->β->γ->Prop}{f:Nat}{C4k:List Operand}{vs:List Value}{b:Array TypeId}(hb:AA P f=true)
  (g:o.op= .call ⟨.value (.func f),C4k.toArray,b⟩) (h:evs L C4k=some vs) (hd:o.dst=some d) (i:Nat.blt d N=true)
  (hc:∀w,St w0 (fz wz wb::c::H) w->Calls P f vs.toArray w (λe w'=>∃(x:α) (y:β) (z:γ) (c1 c2 c3:List Value) (wb':World),φ x y z/\E4 wb wb'/\Gd.rd wb' c1 x/\Gd.rd wb' c2 y/\Gd.rd wb' c3 z/\e= .returned (.tuple #[Gd.vl α c1,Gd.vl β c2,Gd.vl γ c3])/\St w0 (fz wz wb'::c::H) w'))
  (k:∀x y z c1 c2 c3 wb',φ x y z->E4 wb wb'->Gd.rd wb' c1 x->Gd.rd wb' c2 y->Gd.rd wb' c3 z->D N w0 (fz wz wb'::c::H) ((d, .tuple #[Gd.vl α c1,Gd.vl β c2,Gd.vl γ c3])::L) K):D N w0 (fz wz wb::c::H) L (λa w=>o.wp P a w K Q):=
 K7 (σ:=(α × β × γ)×(List Value × List Value × List Value)× World) (val:=λs=> .tuple #[Gd.vl α s.2.1.1,Gd.vl β s.2.1.2.1,Gd.vl γ s.2.1.2.2]) (H':=λs=>fz wz s.2.2::c::H)
  (J:=λs=>φ s.1.1 s.1.2.1 s.1.2.2/\E4 wb s.2.2/\Gd.rd s.2.2 s.2.1.1 s.1.1/\Gd.rd s.2.2 s.2.1.2.1 s.1.2.1/\Gd.rd s.2.2 s.2.1.2.2 s.1.2.2) hb g h hd i
  (λw hs=>(hc w hs).mono λ_ _ ⟨x,y,z,c1,c2,c3,wb',h1,j,l,m,n,he,hst⟩=>⟨((x,y,z),(c1,c2,c3),wb'),he,⟨h1,j,l,m,n⟩,hst⟩) (λs hs=>k s.1.1 s.1.2.1 s.1.2.2 s.2.1.1 s.2.1.2.1 s.2.1.2.2 s.2.2 hs.1 hs.2.1 hs.2.2.1 hs.2.2.2.1 hs.2.2.2.2)
theorem C4Z{α:Type} [Gd α] [Tid α]{c:Chunk}{φ:List α->Prop}{f:Nat}{C4k:List Operand}{vs:List Value}{b:Array TypeId}(hb:AA P f=true)
  (g:o.op= .call ⟨.value (.func f),C4k.toArray,b⟩) (h:evs L C4k=some vs) (hd:o.dst=some d) (i:Nat.blt d N=true)
  (hc:∀w,St w0 (fz wz wb::c::H) w->Calls P f vs.toArray w (λe w'=>∃(y:List α) (u:Value) (wb':World),φ y/\E4 wb wb'/\e= .returned u/\St w0 (oz wb' u y::fz wz wb'::c::H) w'))
  (k:∀y u wb',φ y->E4 wb wb'->D N w0 (oz wb' u y::fz wz wb'::c::H) ((d,u)::L) K):D N w0 (fz wz wb::c::H) L (λa w=>o.wp P a w K Q):=
 K7 (σ:=List α × Value × World) (val:=λs=>s.2.1) (H':=λs=>oz s.2.2 s.2.1 s.1::fz wz s.2.2::c::H) (J:=λs=>φ s.1/\E4 wb s.2.2) hb g h hd i
  (λw hs=>(hc w hs).mono λ_ _ ⟨y,u,wb',h1,j,he,hst⟩=>⟨(y,u,wb'),he,⟨h1,j⟩,hst⟩) (λs hs=>k s.1 s.2.1 s.2.2 hs.1 hs.2)
theorem czE{α:Type} [Gd α]{φ:α->Prop}{f:Nat}{C4k:List Operand}{vs:List Value}{b:Array TypeId}(hb:AA P f=true)
  (c:o.op= .call ⟨.value (.func f),C4k.toArray,b⟩) (g:evs L C4k=some vs) (hd:o.dst=some d) (h:Nat.blt d N=true) (i:E4 wz w0)
  (hc:∀w,E4 wb w->Ex w0 w->Calls P f vs.toArray w (λe w'=>∃x:α,φ x/\nO wb w x e w'))
  (k:∀x cs wb',φ x->E4 wb wb'->Gd.rd wb' cs x->D N w0 (fz wz wb'::H) ((d,Gd.vl α cs)::L) K):D N w0 (fz wz wb::H) L (λa w=>o.wp P a w K Q):=
 K7 (σ:=α × List Value × World) (val:=λs=>Gd.vl α s.2.1) (H':=λs=>fz wz s.2.2::H) (J:=λs=>φ s.1/\E4 wb s.2.2/\Gd.rd s.2.2 s.2.1 s.1) hb c g hd h
  (λw hs=>(hc w (Q0 (k:=0) i hs rfl) hs.bel).mono λ_ _ ⟨x,h1,cs,wb',he,hzk,hr⟩=>⟨(x,cs,wb'),he,⟨h1,hzk.2.1,hr⟩,aP hs hzk⟩) (λs hj=>k s.1 s.2.1 s.2.2 hj.1 hj.2.1 hj.2.2)
theorem C1C{α β:Type} [Gd α] [Gd β]{φ:α->β->Prop}{f:Nat}{C4k:List Operand}{vs:List Value}{b:Array TypeId}(hb:AA P f=true)
  (g:o.op= .call ⟨.value (.func f),C4k.toArray,b⟩) (h:evs L C4k=some vs) (hd:o.dst=some d) (i:Nat.blt d N=true) (j:E4 wz w0)
  (hc:∀w,E4 wb w->Ex w0 w->Calls P f vs.toArray w (λe w'=>∃(x:α) (y:β),φ x y/\B2v wb w x y e w'))
  (k:∀x y c1 c2 wb',φ x y->E4 wb wb'->Gd.rd wb' c1 x->Gd.rd wb' c2 y->D N w0 (fz wz wb'::H) ((d, .tuple #[Gd.vl α c1,Gd.vl β c2])::L) K):D N w0 (fz wz wb::H) L (λa w=>o.wp P a w K Q):=
 K7 (σ:=(α × β)×(List Value × List Value)× World) (val:=λs=> .tuple #[Gd.vl α s.2.1.1,Gd.vl β s.2.1.2]) (H':=λs=>fz wz s.2.2::H) (J:=λs=>φ s.1.1 s.1.2/\E4 wb s.2.2/\Gd.rd s.2.2 s.2.1.1 s.1.1/\Gd.rd s.2.2 s.2.1.2 s.1.2) hb g h hd i
  (λw hs=>(hc w (Q0 (k:=0) j hs rfl) hs.bel).mono λ_ _ ⟨x,y,h1,c1,c2,wb',he,hzk,hr,c⟩=>⟨((x,y),(c1,c2),wb'),he,⟨h1,hzk.2.1,hr,c⟩,aP hs hzk⟩) (λs hj=>k s.1.1 s.1.2 s.2.1.1 s.2.1.2 s.2.2 hj.1 hj.2.1 hj.2.2.1 hj.2.2.2)
theorem C0u{x y:Operand}{m n:Int}{b:Array TypeId}(c:o.op= .call ⟨.builtin .min, #[x,y],b⟩)(f:ev L x=some (.int .i64 m))(g:ev L y=some (.int .i64 n)):C2 P N w0 H L o (.int .i64 (min m n)):=by
 intro a w hf _;have e:(if n<m then n else m)=min m n:=by omega
 unfold execOp;rw[c];simp[resolve,invoke,builtin,hf.ev f,hf.ev g,run_min_int2,e]
end
end Go.Sy
