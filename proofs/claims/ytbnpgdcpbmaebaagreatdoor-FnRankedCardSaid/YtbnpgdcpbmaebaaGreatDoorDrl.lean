/-
  What is drawn: sizes.
  Conditions: those that each theorem states.
-/
import Derived.Test.YtbnpgdcpbmaebaaGreatDoorDrz
import Derived.Test.YtbnpgdcpbmaebaaGreatDoorMat
namespace Go.Sy
open Go
theorem B4i(l:List ByteArray)(x:ByteArray):M9 (l++ [x])=M9 l+1+x.size:=by unfold M9;simp;omega
theorem B7d{l:List ByteArray}{x:ByteArray}(h:x∈l):x.size+1<=M9 l:=by
 have h1:=List.length_pos_of_mem h;have a:=C8 (c:=λs:ByteArray=>s.size) h;unfold AI at a;unfold M9;omega
theorem B6E{α:Type}{p:α->Prop}{l:List α}{x:α}(h:∀r∈l,p r)(a:p x):∀r∈l++ [x],p r:=λr hr=>by
 rcases List.mem_append.1 hr with h1|h1
 ·exact h r h1
 ·rw[List.mem_singleton] at h1;subst h1;exact a
theorem B5k(k:Int)(p:Pattern):BW ⟨k,p,⟨#[]⟩,⟨#[]⟩⟩=E8 p:=by
 have a:(⟨#[]⟩:ByteArray).size=0:=rfl;unfold BW;simp only[a];omega
theorem B5a{s:ByteArray}(h:s.size<=1048576):VP s:=by unfold VP;omega
theorem B9i{l:List ByteArray}(h:M9 l<=1048576):A1i l:=λx hx=>B5a (by have:=B7d hx;omega)
theorem C3X{f:Fact}(h:F9 f<=1048576):P9 f:=by
 unfold F9 at h;exact⟨B5a (by omega),B9i (by omega)⟩
theorem B8w{p:Pattern}(h:E8 p<=1048576):IP p:=by
 unfold E8 at h;exact⟨B5a (by omega),B9i (by omega)⟩
theorem B8x{x:Cond}(hk:okI x.Kind)(h:BW x<=1048576):LB x:=by
 unfold BW at h;exact⟨hk,B8w (by omega),B5a (by omega),B5a (by omega)⟩
theorem B8y{a:Action}(hk:okI a.Kind)(h:CV a<=1048576):QB a:=⟨hk,B8w h⟩
def B5l:List ByteArray:=[⟨#[111,110]⟩,⟨#[111,110]⟩,⟨#[97,116]⟩,⟨#[112]⟩,⟨#[113]⟩,⟨#[122]⟩]
def B5g:List Int:=[2,2,2,1,1,0]
def atL:List ByteArray:=[⟨#[97]⟩,⟨#[98]⟩,⟨#[99]⟩,⟨#[49]⟩,⟨#[50]⟩]
theorem C0m{k:Nat}{x:ByteArray}(h:B5l[k]?=some x):x.size<=2/\x≠⟨#[110]⟩:=⟨B6D (List.mem_of_getElem? h) (by decide),of_decide_eq_true (B9y (p:=λx=>decide (x≠⟨#[110]⟩)) (List.mem_of_getElem? h) (by decide))⟩
theorem C0n{k:Nat}{n:Int}(h:B5g[k]?=some n):0<=n/\n<=2:=by
 have a:=List.mem_of_getElem? h;simp only[B5g,List.mem_cons,List.not_mem_nil,or_false] at a;omega
def nR:ByteArray:=⟨#[110]⟩
def smF(f:Fact):Prop:=F9 f<=8/\f.Rel≠nR
def B8T(l:List Fact):Prop:=∀f∈l,smF f
theorem B9A:B8T []:=λf h=>by cases h
theorem B9B{f:Fact}{l:List Fact}(h:B8T l)(a:smF f):B8T (B5M f l):=λx hx=>by
 rcases B6f hx with h1|h1
 ·exact h x h1
 ·rw[h1];exact a
theorem B8G{l:List Fact}(h:B8T l):DD F9 l<=9*l.length:=A9m (n:=8) λf hf=>(h f hf).1
theorem B4y(r:ByteArray)(l:List ByteArray):F9 ⟨r,l⟩=r.size+M9 l:=rfl
theorem B5D(r:ByteArray)(l:List ByteArray):E8 ⟨r,l⟩=r.size+M9 l:=rfl
theorem C0o(k:Int)(l r:ByteArray):BW ⟨k,⟨⟨#[]⟩,[]⟩,l,r⟩=l.size+r.size:=by
 have a:E8 ⟨⟨#[]⟩,[]⟩=0:=by decide
 unfold BW;simp only[a];omega
section
variable {l:List Fact} {k:Nat}
end
end Go.Sy
