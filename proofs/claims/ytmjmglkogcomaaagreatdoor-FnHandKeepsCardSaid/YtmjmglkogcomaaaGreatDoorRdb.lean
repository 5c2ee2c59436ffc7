/-
  How the arguments of the laws read.
  Conditions: none.
-/
import Derived.Test.YtmjmglkogcomaaaGreatDoorRow
import Derived.Test.YtmjmglkogcomaaaGreatDoorTypes
namespace Go.Sy
open Go Go.Proofs Go.ChangeShapes Go.WideShapes Go.ChangeAt Go.RowKit Go.Deep
theorem laidOut:laidOutB Tryz.prog=true:=by kernel_rfl
theorem A5D{α:Type}{l:List α}(h:l.length=1):∃a,l=[a]:=List.length_eq_one_iff.1 h
def fieldsOf(P:Program)(t:Nat):Array Field:=match P.underlying t with|some (.struct fs)=>fs|_=> #[]
def fieldAt(P:Program)(t i:Nat):Field:=(fieldsOf P t).getD i default
instance:Dk UInt8:=⟨λ_=>True⟩
theorem C0z:R9 Tryz.prog 5 UInt8:=by
 intro H enc w base spare held fuel cs x h;obtain⟨n,rfl,_,a⟩:=DataW.trod_int (k:= .u8) (by kernel_rfl) h;have b:0<=n/\n<=255:=by simpa [Lit.wf,IntKind.min,IntKind.max,IntKind.signed,IntKind.bits] using a
 obtain⟨m,rfl⟩:=Int.eq_ofNat_of_zero_le b.1;have c:m<256:=by omega
 have e:(UInt8.ofNat m).toNat=m:=by rw[UInt8.toNat_ofNat'];exact Nat.mod_eq_of_lt c
 refine⟨UInt8.ofNat m,?_,trivial⟩;show [_]=[Value.int .u8 ((UInt8.ofNat m).toNat:Int)];rw[e]
theorem A5G:R9 Tryz.prog 22 (List UInt8):=I5 (α:=UInt8) (e:=5) (by kernel_rfl) (by kernel_rfl) C0z
end Go.Sy
