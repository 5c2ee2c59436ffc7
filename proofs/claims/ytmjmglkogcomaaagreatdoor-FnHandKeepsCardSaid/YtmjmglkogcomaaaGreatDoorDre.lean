/-
  What is drawn: engines.
  Conditions: those that each theorem states.
-/
import Derived.Test.YtmjmglkogcomaaaGreatDoorDrn
import Derived.Test.YtmjmglkogcomaaaGreatDoorMch
namespace Go.Sy
open Go
section
variable {e:C1P} {f:C1O} {x:C1K} {s:C1N} {t:Int} {b:Bool} {k:Nat}
theorem C7l:DI ⟨e.p8,e.w,e.g,e.m++ [f],e.p,e.u⟩=DI e+1+DG f:=by
 unfold DI
 dsimp only
 rw[A9n,B0V];omega
theorem C8N:DI ⟨e.p8,e.w,e.g,e.m,e.p,e.u++ [x]⟩=DI e+1+L9 x:=by
 unfold DI
 dsimp only
 rw[A9n,B0V];omega
theorem C7m:DI ⟨e.p8,e.w++ [s],e.g,e.m,e.p,e.u⟩=DI e+1+F9 s.j:=by
 unfold DI
 dsimp only
 rw[A9n,B0V];show _+(_+(1+F9 s.j))+_+_=_;omega
theorem C7o{α:Type}(c:α->Nat)(l:List α)(k:Nat):DD c (l.take k)<=DD c l:=by
 have h:=A9n c (l.take k) (l.drop k);rw[List.take_append_drop] at h;omega
theorem C7n:DI ⟨e.p8,e.w,e.g,e.m.take k,e.p,e.u⟩<=DI e:=by
 have:=C7o DG e.m k;unfold DI
 dsimp only
 omega
theorem C7p{α:Type}{p:α->Prop}{l:List α}(h:LR p l):LR p (l.take k):=λy a=>h y (List.mem_of_mem_take a)
theorem C8n(h:QC e)(a:okI t):QC ⟨e.p8,e.w,t,e.m,b,e.u⟩:=⟨h.1,h.2.1,a,h.2.2.2.1,trivial,h.2.2.2.2.2⟩
theorem C8o(h:QC e)(a:TX f):QC ⟨e.p8,e.w,e.g,e.m++ [f],e.p,e.u⟩:=⟨h.1,h.2.1,h.2.2.1,A9X h.2.2.2.1 (A9Y a),trivial,h.2.2.2.2.2⟩
theorem C8P(h:QC e)(a:wK x):QC ⟨e.p8,e.w,e.g,e.m,e.p,e.u++ [x]⟩:=⟨h.1,h.2.1,h.2.2.1,h.2.2.2.1,trivial,A9X h.2.2.2.2.2 (A9Y a)⟩
theorem C8p(h:QC e)(a:MA s):QC ⟨e.p8,e.w++ [s],e.g,e.m,e.p,e.u⟩:=⟨h.1,A9X h.2.1 (A9Y a),h.2.2.1,h.2.2.2.1,trivial,h.2.2.2.2.2⟩
theorem C8q(h:QC e):QC ⟨e.p8,e.w,e.g,e.m.take k,e.p,e.u⟩:=⟨h.1,h.2.1,h.2.2.1,C7p h.2.2.2.1,trivial,h.2.2.2.2.2⟩
def smE(n:Nat)(e:C1P):Prop:=DI e<=n/\QC e
theorem C7y(h:HT e=true)(a:QC e):smE 30000 e:=⟨B0H h,a⟩
theorem C4L{m n:Nat}(h:smE m e)(a:m<=n):smE n e:=⟨Nat.le_trans h.1 a,h.2⟩
theorem C4R{n:Nat}(h:smE n e)(a:okI t):smE n ⟨e.p8,e.w,t,e.m,b,e.u⟩:=⟨h.1,C8n h.2 a⟩
theorem C5E{n m:Nat}(h:smE n e)(c:DG f<=m)(a:TX f):smE (n+1+m) ⟨e.p8,e.w,e.g,e.m++ [f],e.p,e.u⟩:=⟨by rw[C7l];have:=h.1;omega,C8o h.2 a⟩
theorem C7J{n m:Nat}(h:smE n e)(c:L9 x<=m)(a:wK x):smE (n+1+m) ⟨e.p8,e.w,e.g,e.m,e.p,e.u++ [x]⟩:=⟨by rw[C8N];have:=h.1;omega,C8P h.2 a⟩
theorem C6h{n m:Nat}(h:smE n e)(c:F9 s.j<=m)(a:MA s):smE (n+1+m) ⟨e.p8,e.w++ [s],e.g,e.m,e.p,e.u⟩:=⟨by rw[C7m];have:=h.1;omega,C8p h.2 a⟩
theorem C8r{n:Nat}(h:smE n e):smE n ⟨e.p8,e.w,e.g,e.m.take k,e.p,e.u⟩:=⟨Nat.le_trans C7n h.1,C8q h.2⟩
end
def gdE(e:C1P):Prop:=HT e=true/\QC e
theorem C7z{rules:List C1M}(h:AR rules=true):gdE (A8M rules):=⟨C3O h,B2f (C2n h).1⟩
theorem C5y{e:C1P}{f:C1G}(h:gdE e)(a:P9 f):gdE (A8D e f):=⟨C3V h.1,B3H h.2 a⟩
theorem C5z{e:C1P}{f:C1G}(h:gdE e)(a:P9 f):gdE (A8E e f):=⟨C3W h.1,B3I h.2 a⟩
theorem C6G{e:C1P}(h:gdE e):gdE (stE e):=⟨by
 cases hb:stB e with
 |true=>exact C3a hb
 |false=>rw[<-(A8j hb).1];exact h.1,B3E h.2⟩
theorem C6m{e:C1P}(h:gdE e):smE 30000 e:=C7y h.1 h.2
theorem C5p{e:C1P}{k:Nat}{s:C1N}(h:gdE e)(a:e.w[k]?=some s):P9 s.j/\F9 s.j<=1048576:=by
 have h1:=C6m h;have d:=h.2.2.1 _ (List.mem_of_getElem? a);have i:=C8 (c:=CM) (List.mem_of_getElem? a);have l:DD CM e.w=e.w.length+AI CM e.w:=rfl;have g:=h1.1;unfold DI at g;have m:CM s=F9 s.j:=rfl;exact⟨d.1,by omega⟩
def atU(l:List UInt8)(i:Int):Int:=match l[i.toNat]? with
 |some b=>((b.toNat:Nat):Int)
 |none=>0
theorem C8A(l:List UInt8)(i:Int):0<=atU l i:=by unfold atU;split<;>omega
theorem at5(l:List UInt8)(i:Int):0<=(atU l i).tmod 5/\(atU l i).tmod 5<5:=B7V (C8A l i) (by decide)
theorem C5C{a b:Int}(c:okI a)(hb:okI b):okI (max a b):=by unfold okI at*;omega
theorem C8u{s:ByteArray}{a b:Int}{k:Nat}(d:s.size<=8)(c:okI a)(hb:okI b):DG ⟨s,[a,b,1,1].take k⟩<=12/\TX ⟨s,[a,b,1,1].take k⟩:=by
 refine⟨?_,?_,C7p ?_⟩
 ·unfold DG;have:([a,b,1,1].take k).length<=4:=by rw[List.length_take];exact Nat.min_le_right _ _
  dsimp only;omega
 ·show s.size<=_;omega
 ·intro x hx;simp only[List.mem_cons,List.not_mem_nil,or_false] at hx
  rcases hx with rfl|rfl|rfl|rfl
  ·exact c
  ·exact hb
  ·unfold okI;omega
  ·unfold okI;omega
theorem C8s{n:Nat}{e:C1P}(h:smE n e):e.m.length<=n:=by
 have h1:=h.1;unfold DI DD at h1;omega
theorem C6v{n k:Nat}{e:C1P}{fl:List C1O}{t:Int}(h:smE n ⟨e.p8,e.w,e.g,fl,e.p,e.u⟩)(a:okI t)(c:n<=40000):smE 40000 ⟨e.p8,e.w,t,fl.take k,e.p,e.u⟩:=by
 have h1:=C4R (b:=e.p) (C8r (k:=k) h) a;exact C4L h1 c
theorem C7I{n m:Nat}{e:C1P}{f:C1G}{t:Int}(h:smE n e)(a:F9 f<=m)(c:m<=1048576)(d:okI t):smE (n+1+m) ⟨e.p8,e.w++ [⟨f,t⟩],e.g,e.m,e.p,e.u⟩:=C6h h a ⟨C3X (Nat.le_trans a c),d⟩
theorem evd{x:C1K}(h:x.p7.size<=9/\F9 x.j<=20/\okI x.s):L9 x<=29/\wK x:=
 ⟨by have:=h.1;have:=h.2.1;show x.p7.size+F9 x.j<=29;omega,h.2.2,by have:=h.1;show x.p7.size<=_;omega,C3X (by have:=h.2.1;omega)⟩
theorem C6M{n k:Nat}{e:C1P}{s:C1N}(h:smE n e)(a:e.w[k]?=some s):F9 s.j<=n:=by
 have g:=C8 (c:=CM) (List.mem_of_getElem? a);have i:DD CM e.w=e.w.length+AI CM e.w:=rfl;have d:=h.1;unfold DI at d;have l:CM s=F9 s.j:=rfl;omega
end Go.Sy
