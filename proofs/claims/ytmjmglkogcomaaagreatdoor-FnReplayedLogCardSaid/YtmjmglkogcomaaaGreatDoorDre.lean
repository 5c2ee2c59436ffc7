/-
  What is drawn: engines.
  Conditions: those that each theorem states.
-/
import Derived.Test.YtmjmglkogcomaaaGreatDoorDrn
import Derived.Test.YtmjmglkogcomaaaGreatDoorMch
namespace Go.Sy
open Go
section
variable {e:C1P} {f:C1O} {x:C1K} {s:C1N} {t:Int} {b:Bool} {k:Nat}
theorem C8N:DI ⟨e.p8,e.w,e.g,e.m,e.p,e.u++ [x]⟩=DI e+1+L9 x:=by
 unfold DI
 dsimp only
 rw[A9n,B0V];omega
theorem C7o{α:Type}(c:α->Nat)(l:List α)(k:Nat):DD c (l.take k)<=DD c l:=by
 have h:=A9n c (l.take k) (l.drop k);rw[List.take_append_drop] at h;omega
theorem C8O:DI ⟨e.p8,e.w,e.g,e.m,e.p,e.u.take k⟩<=DI e:=by
 have:=C7o L9 e.u k;unfold DI
 dsimp only
 omega
theorem C7p{α:Type}{p:α->Prop}{l:List α}(h:LR p l):LR p (l.take k):=λy a=>h y (List.mem_of_mem_take a)
theorem C8P(h:QC e)(a:wK x):QC ⟨e.p8,e.w,e.g,e.m,e.p,e.u++ [x]⟩:=⟨h.1,h.2.1,h.2.2.1,h.2.2.2.1,trivial,A9X h.2.2.2.2.2 (A9Y a)⟩
theorem C8Q(h:QC e):QC ⟨e.p8,e.w,e.g,e.m,e.p,e.u.take k⟩:=⟨h.1,h.2.1,h.2.2.1,h.2.2.2.1,trivial,C7p h.2.2.2.2.2⟩
def smE(n:Nat)(e:C1P):Prop:=DI e<=n/\QC e
theorem C7y(h:HT e=true)(a:QC e):smE 30000 e:=⟨B0H h,a⟩
theorem C7J{n m:Nat}(h:smE n e)(c:L9 x<=m)(a:wK x):smE (n+1+m) ⟨e.p8,e.w,e.g,e.m,e.p,e.u++ [x]⟩:=⟨by rw[C8N];have:=h.1;omega,C8P h.2 a⟩
theorem C7K{n:Nat}(h:smE n e):smE n ⟨e.p8,e.w,e.g,e.m,e.p,e.u.take k⟩:=⟨Nat.le_trans C8O h.1,C8Q h.2⟩
end
def gdE(e:C1P):Prop:=HT e=true/\QC e
theorem C7z{rules:List C1M}(h:AR rules=true):gdE (A8M rules):=⟨C3O h,B2f (C2n h).1⟩
theorem C5y{e:C1P}{f:C1G}(h:gdE e)(a:P9 f):gdE (A8D e f):=⟨C3V h.1,B3H h.2 a⟩
theorem C5z{e:C1P}{f:C1G}(h:gdE e)(a:P9 f):gdE (A8E e f):=⟨C3W h.1,B3I h.2 a⟩
theorem C6G{e:C1P}(h:gdE e):gdE (stE e):=⟨by
 cases hb:stB e with
 |true=>exact C3a hb
 |false=>rw[<-(A8j hb).1];exact h.1,B3E h.2⟩
theorem C6m{e:C1P}(h:gdE e):smE 30000 e:=C7y h.1 h.2
theorem C5p{e:C1P}{k:Nat}{s:C1N}(h:gdE e)(a:e.w[k]?=some s):P9 s.j/\F9 s.j<=1048576:=by
 have h1:=C6m h;have d:=h.2.2.1 _ (List.mem_of_getElem? a);have i:=C8 (c:=CM) (List.mem_of_getElem? a);have l:DD CM e.w=e.w.length+AI CM e.w:=rfl;have g:=h1.1;unfold DI at g;have m:CM s=F9 s.j:=rfl;exact⟨d.1,by omega⟩
def atU(l:List UInt8)(i:Int):Int:=match l[i.toNat]? with
 |some b=>((b.toNat:Nat):Int)
 |none=>0
theorem C8A(l:List UInt8)(i:Int):0<=atU l i:=by unfold atU;split<;>omega
theorem at5(l:List UInt8)(i:Int):0<=(atU l i).tmod 5/\(atU l i).tmod 5<5:=B7V (C8A l i) (by decide)
theorem C8R{rules:List C1M}{a:List C1K}(h:A8e rules a=false):(A8N rules a).u.length=0/\(A8N rules a).p8.length=0:=by
 unfold A8e at h;unfold A8N
 cases ho:A9H rules a with
 |none=>exact⟨rfl,rfl⟩
 |some e=>rw[ho] at h;cases h
theorem evd{x:C1K}(h:x.p7.size<=9/\F9 x.j<=20/\okI x.s):L9 x<=29/\wK x:=
 ⟨by have:=h.1;have:=h.2.1;show x.p7.size+F9 x.j<=29;omega,h.2.2,by have:=h.1;show x.p7.size<=_;omega,C3X (by have:=h.2.1;omega)⟩
def C8i(r:List C1M)(l:List C1K):Prop:=DD BG r<=1048576/\DD L9 l<=1048576/\LR H9 r/\LR wK l
theorem C6E{n:Nat}{e:C1P}(h:smE n e)(a:n<=1048576):C8i e.p8 e.u:=by
 have h1:=h.1;unfold DI at h1;exact⟨by omega,by omega,h.2.1,h.2.2.2.2.2.2⟩
end Go.Sy
