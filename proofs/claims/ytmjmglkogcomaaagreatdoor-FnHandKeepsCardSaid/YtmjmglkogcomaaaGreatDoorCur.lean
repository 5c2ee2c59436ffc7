/-
  The cursor over drawn bytes: a struct that is written through a pointer.
  Conditions: none.
-/
import Derived.Test.YtmjmglkogcomaaaGreatDoorOwn2
import Derived.Laws.Bits128
namespace Go.Sy
open Go Go.RowKit
instance:Fl UInt8:=⟨λb=> .int .u8 b.toNat,λ_=>rfl⟩
def cu(g:Nat)(v:Value)(n:Nat):Chunk where
 ok w fp:=fp=[g]/\∃(i h:Int) (t:TypeId),w.heap[g]?=some (.cells #[v, .int .i64 i, .int .i64 h] t (0,0))/\0<=i/\i<=n
 loc:=λw w' fp h hs=>by
  obtain⟨rfl,i,h,t,he,h0,h1⟩:=h;exact⟨rfl,i,h,t,by rw[hs g (by simp)];exact he,h0,h1⟩
def B5h(m n:Int):Int:=IntKind.i64.wrap (m*n)
theorem B8d(n:Int):B7H n 255=n%256:=by
 have a:(BitVec.ofInt 64 255).toNat=2^8-1:=by decide
 have key:(BitVec.ofInt 64 n&&&BitVec.ofInt 64 255).toNat=(n%((2^64:Nat):Int)).toNat%2^8:=by
  rw[BitVec.toNat_and,BitVec.toNat_ofInt,a,Nat.and_two_pow_sub_one_eq_mod]
 show IntKind.i64.wrap ((BitVec.ofInt 64 n&&&BitVec.ofInt 64 255).toNat:Nat)=n%256;rw[key,IntKind.wrap_i64];omega
theorem B7I(n:Int):0<=B7H n 255/\B7H n 255<=255:=by rw[B8d];omega
theorem B7V{m n:Int}(h0:0<=m)(a:0<n):0<=m.tmod n/\m.tmod n<n:=by
 rw[Int.tmod_eq_emod_of_nonneg h0];exact⟨Int.emod_nonneg _ (by omega),Int.emod_lt_of_pos _ a⟩
theorem B7C{m n:Int}(h0:0<=m)(a:0<n):0<=m.tmod n/\(0<n->m.tmod n<n):=⟨(B7V h0 a).1,λ_=>(B7V h0 a).2⟩
def B8e(m n:Int):Int:=bits .xor .i64 m n
section
variable {P:Program} {N:Nat} {w0:World} {H:List Chunk} {L:Fm} {Q:Exit->Act->World->Prop} {o:Oper} {d:Nat} {K:Act->World->Prop} {g n:Nat} {v:Value}
theorem C0a(k:∀i h:Int,0<=i->i<=n->D N w0 (bx g [v, .int .i64 i, .int .i64 h]::H) L K):D N w0 (cu g v n::H) L K:=by
 intro a w hf hs;obtain⟨fp,⟨j,i,h,t,f,h0,h1⟩,_⟩:=hs.at (k:=0) rfl;refine k i h h0 h1 a w hf (hs.conv (c':=bx g [v, .int .i64 i, .int .i64 h]) (λb c=>⟨b,?_,List.Perm.refl _⟩));obtain⟨e,_⟩:=c;exact⟨e,t,f⟩
theorem B7w{i h:Int}(h0:0<=i/\i<=n)(k:D N w0 (cu g v n::H) L K):D N w0 (bx g [v, .int .i64 i, .int .i64 h]::H) L K:=by
 intro a w hf hs;refine k a w hf (hs.conv (c':=cu g v n) (λc f=>⟨c,?_,List.Perm.refl _⟩));obtain⟨e,t,b⟩:=f;exact⟨e,i,h,t,b,h0.1,h0.2⟩
theorem B7W{t b:TypeId}{x y:Operand}{m n:Int}(c:o.op= .binOp .mul t x y b)(e:ev L x=some (.int .i64 m))(f:ev L y=some (.int .i64 n)):C2 P N w0 H L o (.int .i64 (B5h m n)):=by
 intro a w hf _;unfold execOp;rw[c];simp only[hf.ev e,hf.ev f];simp[eqGuard,binOp,Op.intArith,B5h]
theorem B7x{m n:Int}(h: -9223372036854775808<=m*n/\m*n<=9223372036854775807):B5h m n=m*n:=by
 unfold B5h;exact IntWalk.i64_in _ h
theorem C0b{t b:TypeId}{x y:Operand}{m n:Int}(c:o.op= .binOp .xor t x y b)(f:ev L x=some (.int .i64 m))(h:ev L y=some (.int .i64 n)):C2 P N w0 H L o (.int .i64 (B8e m n)):=by
 intro a w hf _;unfold execOp;rw[c];simp only[hf.ev f,hf.ev h];have e:Op.intBits .xor .i64 m n=pure (.int .i64 (bits .xor .i64 m n)):=rfl;simp[eqGuard,binOp,e,B8e]
theorem B8f{t a:TypeId}{x y:Operand}{m n:Int}(b:o.op= .binOp .rem t x y a)(c:ev L x=some (.int .i64 m))(e:ev L y=some (.int .i64 n))(f:n≠0):C2 P N w0 H L o (.int .i64 (m.tmod n)):=oH b c e (by simpa using f)
theorem ccI{c:Chunk}{φ:Int->Prop}{f:Nat}{C4k:List Operand}{vs:List Value}{b:Array TypeId}(hb:AA P f=true)
  (i:o.op= .call ⟨.value (.func f),C4k.toArray,b⟩) (j:evs L C4k=some vs) (hd:o.dst=some d) (l:Nat.blt d N=true)
  (hc:∀w,St w0 (c::H) w->Calls P f vs.toArray w (λe w'=>∃y:Int,φ y/\e= .returned (.int .i64 y)/\St w0 (c::H) w'))
  (k:∀y,φ y->D N w0 (c::H) ((d, .int .i64 y)::L) K):D N w0 (c::H) L (λa w=>o.wp P a w K Q):=
 K7 (σ:=Int) (val:=λy=> .int .i64 y) (H':=λ_=>c::H) (J:=φ) hb i j hd l
  (λw m=>(hc w m).mono λ_ _ ⟨y,h,he,hst⟩=>⟨y,he,h,hst⟩) (λy h=>k y h)
theorem ccB{c:Chunk}{f:Nat}{C4k:List Operand}{vs:List Value}{b:Array TypeId}(hb:AA P f=true)
  (h:o.op= .call ⟨.value (.func f),C4k.toArray,b⟩) (i:evs L C4k=some vs) (hd:o.dst=some d) (j:Nat.blt d N=true)
  (hc:∀w,St w0 (c::H) w->Calls P f vs.toArray w (λe w'=>∃y:Bool,e= .returned (.bool y)/\St w0 (c::H) w'))
  (k:∀y,D N w0 (c::H) ((d, .bool y)::L) K):D N w0 (c::H) L (λa w=>o.wp P a w K Q):=
 K7 (σ:=Bool) (val:=λy=> .bool y) (H':=λ_=>c::H) (J:=λ_=>True) hb h i hd j
  (λw l=>(hc w l).mono λ_ _ ⟨y,he,hst⟩=>⟨y,he,trivial,hst⟩) (λy _=>k y)
theorem ccR{α:Type} [Gd α]{c:Chunk}{φ:α->Prop}{f:Nat}{C4k:List Operand}{vs:List Value}{b:Array TypeId}(hb:AA P f=true)
  (i:o.op= .call ⟨.value (.func f),C4k.toArray,b⟩) (j:evs L C4k=some vs) (hd:o.dst=some d) (l:Nat.blt d N=true)
  (hc:∀w,St w0 (c::H) w->Calls P f vs.toArray w (λe w'=>∃(y:α) (cs:List Value),φ y/\e= .returned (Gd.vl α cs)/\St w0 (ov cs y::c::H) w'))
  (k:∀y cs,φ y->D N w0 (ov cs y::c::H) ((d,Gd.vl α cs)::L) K):D N w0 (c::H) L (λa w=>o.wp P a w K Q):=
 K7 (σ:=α × List Value) (val:=λs=>Gd.vl α s.2) (H':=λs=>ov s.2 s.1::c::H) (J:=λs=>φ s.1) hb i j hd l
  (λw h=>(hc w h).mono λ_ _ ⟨y,cs,hy,he,hst⟩=>⟨(y,cs),he,hy,hst⟩) (λs h=>k s.1 s.2 h)
theorem B9w{t e:TypeId}{x:Operand}{b:UInt8}(f:P.underlying e=some (.int .i64))(c:∃u,P.underlying t=some u)(h:o.op= .convert t e x)(i:ev L x=some (.int .u8 (b.toNat:Int))):C2 P N w0 H L o (.int .i64 (b.toNat:Int)):=by
 intro a w hf _;obtain⟨u,c⟩:=c;have j:=b.toNat_lt;unfold execOp;rw[h];simp[convert,hf.ev i,run_underlying f,run_underlying c,Conv.intToInt,IntWalk.i64_in _ (show-9223372036854775808<=(b.toNat:Int)/\(b.toNat:Int)<=9223372036854775807 by omega)]
def C0H(w:World)(v:Value)(n:Nat)(e:Ending)(w':World):Prop:=∃g,e= .returned (.pointer (some ⟨g,0,none⟩))/\(cu g v n).ok w' [g]/\w.heap.size<=g/\g<w'.heap.size/\Ex w w'
theorem B7y{w:World}{k:Nat}(b:St w0 H w)(hk:H[k]?=some (cu g v n)):C0H w0 v n (.returned (.pointer (some ⟨g,0,none⟩))) w:=by
 obtain⟨fp,a,f,c⟩:=b.at hk;have e:fp=[g]:=a.1;subst e;exact⟨g,rfl,a,(c g (by simp)).1,(c g (by simp)).2,b.bel⟩
theorem ccN{f:Nat}{C4k:List Operand}{vs:List Value}{b:Array TypeId}(hb:AA P f=true)
  (i:o.op= .call ⟨.value (.func f),C4k.toArray,b⟩) (j:evs L C4k=some vs) (hd:o.dst=some d) (l:Nat.blt d N=true)
  (hc:∀w,St w0 H w->Calls P f vs.toArray w (C0H w v n))
  (k:∀g,D N w0 (cu g v n::H) ((d, .pointer (some ⟨g,0,none⟩))::L) K):D N w0 H L (λa w=>o.wp P a w K Q):=
 K7 (σ:=Nat) (val:=λg=> .pointer (some ⟨g,0,none⟩)) (H':=λg=>cu g v n::H) (J:=λ_=>True) hb i j hd l
  (λw e=>(hc w e).mono λ_ _ ⟨g,he,hok,h1,m,hx⟩=>⟨g,he,trivial,e.push hx (c:=cu g v n) (fp:=[g]) hok (by simp) (λq h=>by simp only[List.mem_singleton] at h;subst h;exact⟨h1,m⟩)⟩) (λg _=>k g)
end
end Go.Sy
