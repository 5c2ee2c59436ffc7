/-
  Texts and pairs drawn with the cursor; pieces of strings.
  Conditions: none.
-/
import Derived.Test.YtbnpgdcpbmaebaaGreatDoorCur
namespace Go.Sy
open Go Go.RowKit
section
variable {P:Program} {N:Nat} {w0:World} {H:List Chunk} {L:Fm} {Q:Exit->Act->World->Prop} {o:Oper} {d:Nat} {K:Act->World->Prop}
theorem ccS{c:Chunk}{φ:ByteArray->Prop}{f:Nat}{C4k:List Operand}{vs:List Value}{b:Array TypeId}(hb:AA P f=true)
  (g:o.op= .call ⟨.value (.func f),C4k.toArray,b⟩) (h:evs L C4k=some vs) (hd:o.dst=some d) (i:Nat.blt d N=true)
  (hc:∀w,St w0 (c::H) w->Calls P f vs.toArray w (λe w'=>∃y:ByteArray,φ y/\e= .returned (.string y)/\St w0 (c::H) w'))
  (k:∀y,φ y->D N w0 (c::H) ((d, .string y)::L) K):D N w0 (c::H) L (λa w=>o.wp P a w K Q):=
 K7 (σ:=ByteArray) (val:=λy=> .string y) (H':=λ_=>c::H) (J:=φ) hb g h hd i
  (λw hs=>(hc w hs).mono λ_ _ ⟨y,hy,he,hst⟩=>⟨y,he,hy,hst⟩) (λy hy=>k y hy)
theorem C0t{c:Chunk}{φ:ByteArray->Int->Prop}{f:Nat}{C4k:List Operand}{vs:List Value}{b:Array TypeId}(hb:AA P f=true)
  (g:o.op= .call ⟨.value (.func f),C4k.toArray,b⟩) (h:evs L C4k=some vs) (hd:o.dst=some d) (i:Nat.blt d N=true)
  (hc:∀w,St w0 (c::H) w->Calls P f vs.toArray w (λe w'=>∃(y:ByteArray) (z:Int),φ y z/\e= .returned (.tuple #[.string y, .int .i64 z])/\St w0 (c::H) w'))
  (k:∀y z,φ y z->D N w0 (c::H) ((d, .tuple #[.string y, .int .i64 z])::L) K):D N w0 (c::H) L (λa w=>o.wp P a w K Q):=
 K7 (σ:=ByteArray × Int) (val:=λs=> .tuple #[.string s.1, .int .i64 s.2]) (H':=λ_=>c::H) (J:=λs=>φ s.1 s.2) hb g h hd i
  (λw hs=>(hc w hs).mono λ_ _ ⟨y,z,hy,he,hst⟩=>⟨(y,z),he,hy,hst⟩) (λs hs=>k s.1 s.2 hs)
theorem C0D{t:TypeId}{x y g:Operand}{s:ByteArray}{a b:Nat}{z h:Int}(i:P.underlying t=some .string)(j:o.op= .slice t x (some y) (some g) none)(k:ev L x=some (.string s))(l:ev L y=some (.int .i64 z))(c:ev L g=some (.int .i64 h))(m:z=(a:Int))(e:h=(b:Int))(f:a<=b)(hb:b<=s.size):C2 P N w0 H L o (.string (s.extract a b)):=by
 intro ac w hf _;subst m;subst e;unfold execOp;rw[j];have n:(0:Int)<=(a:Int)/\(a:Int)<=((b:Nat):Int)/\((b:Nat):Int)<=((s.size:Nat):Int):=by omega
 simp[Instr.sliceAt,Instr.slice,run_underlying i,hf.ev k,hf.ev l,hf.ev c,Instr.sliceBounds,Instr.sliceBound,asIntOf,n,f,hb]
theorem C0E{t:TypeId}{x e:Operand}{s:ByteArray}{b:Nat}{f:Int}(g:P.underlying t=some .string)(h:o.op= .slice t x none (some e) none)(i:ev L x=some (.string s))(a:ev L e=some (.int .i64 f))(c:f=(b:Int))(hb:b<=s.size):C2 P N w0 H L o (.string (s.extract 0 b)):=by
 intro ac w hf _;subst c;unfold execOp;rw[h];have j:(0:Int)<=((b:Nat):Int)/\((b:Nat):Int)<=((s.size:Nat):Int):=by omega
 simp[Instr.sliceAt,Instr.slice,run_underlying g,hf.ev i,hf.ev a,Instr.sliceBounds,Instr.sliceBound,asIntOf,j,hb]
end
end Go.Sy
