/-
  How the arguments of the laws read.
  Conditions: none.
-/
import Derived.Test.YtfmjgnjaoihefaaGreatDoorRow
import Derived.Test.YtfmjgnjaoihefaaGreatDoorTypes
namespace Go.Sy
open Go Go.Proofs Go.ChangeShapes Go.WideShapes Go.ChangeAt Go.RowKit Go.Deep
theorem laidOut:laidOutB Tryz.prog=true:=by kernel_rfl
theorem A5D{α:Type}{l:List α}(h:l.length=1):∃a,l=[a]:=List.length_eq_one_iff.1 h
def structOf(P:Program)(t:Nat):Option Nat:=match P.underlying t with|some (.struct _)=>some (P.cellsOf t)|_=>none
def jF(P:Program)(t i:Nat):Option (Nat × Nat × Nat):=match P.underlying t with|some (.struct fs)=>(fs[i]?).map (λf=>(f.type,f.offset,P.cellsOf f.type))|_=>none
theorem FB{H:Type}{enc:TypeId × Value->H}{P:Program}{w:World}{base:Nat}{spare:Nat->Bool}{held:Bool}{fuel t k:Nat}{cs:List Value}{x:DataW H × List MemPlace}(hk:structOf P t=some k)(h:DataW.trod enc P w base spare held fuel t cs=some x):
  cs.length=k/\∀i ft off sz,jF P t i=some (ft,off,sz)->∃n y,DataW.trod enc P w base spare held n ft ((cs.drop off).take sz)=some y:=by
 unfold structOf at hk
 split at hk
 ·rename_i fs hu;simp only[Option.some.injEq] at hk;obtain⟨xs,n,_,_,hlen,hxl,hf⟩:=DataW.trod_struct hu h;refine⟨hlen.trans hk,λi ft off sz hi=>?_⟩;unfold jF at hi;rw[hu] at hi;simp only[Option.map_eq_some_iff,Prod.mk.injEq] at hi;obtain⟨f,hfi,rfl,rfl,rfl⟩:=hi;have hlt:i<xs.length:=by rw[hxl];exact(Array.getElem?_eq_some_iff.1 hfi).1
  exact⟨n,xs[i],(hf i f hfi).trans (List.getElem?_eq_getElem hlt)⟩
 ·cases hk
def fieldsOf(P:Program)(t:Nat):Array Field:=match P.underlying t with|some (.struct fs)=>fs|_=> #[]
def fieldAt(P:Program)(t i:Nat):Field:=(fieldsOf P t).getD i default
instance:Dk Go.Sy.Fact:=⟨λr=>Dk.ok r.Rel/\Dk.ok r.Args⟩
instance:Dk Go.Sy.Pattern:=⟨λr=>Dk.ok r.Rel/\Dk.ok r.Args⟩
instance:Dk Go.Sy.Event:=⟨λr=>Dk.ok r.Kind/\Dk.ok r.Rule/\Dk.ok r.Fact⟩
instance:Dk Go.Sy.Cond:=⟨λr=>Dk.ok r.Kind/\Dk.ok r.Pattern/\Dk.ok r.Left/\Dk.ok r.Right⟩
instance:Dk Go.Sy.Action:=⟨λr=>Dk.ok r.Kind/\Dk.ok r.Pattern⟩
instance:Dk Go.Sy.Rule:=⟨λr=>Dk.ok r.Name/\Dk.ok r.Priority/\Dk.ok r.If/\Dk.ok r.Then⟩
instance:Dk Go.Sy.Stamp:=⟨λr=>Dk.ok r.Fact/\Dk.ok r.Time⟩
instance:Dk Go.Sy.Firing:=⟨λr=>Dk.ok r.Rule/\Dk.ok r.Times⟩
instance:Dk Go.Sy.Engine:=⟨λr=>Dk.ok r.Rules/\Dk.ok r.Memory/\Dk.ok r.Clock/\Dk.ok r.Fired/\Dk.ok r.Halted/\Dk.ok r.Log⟩
theorem bI:R9 Tryz.prog 9 ByteArray:=fH (by kernel_rfl)
theorem A0e:R9 Tryz.prog 72 (List ByteArray):=I5 (α:=ByteArray) (e:=9) (by kernel_rfl) (by kernel_rfl) bI
theorem qN:R9 Tryz.prog 104 Go.Sy.Fact:=by
 intro H enc w base spare held fuel cs x h;obtain⟨hlen,hf⟩:=FB (k:=2) (by kernel_rfl) h
 match cs,hlen with
 | [c0,c1],_=>
  obtain⟨a,f,g0⟩:=hf 0 9 0 1 (by kernel_rfl);obtain⟨a0,r0,b⟩:=bI H enc w base spare held a _ _ g0;obtain⟨n1,g,g1⟩:=hf 1 72 1 1 (by kernel_rfl);obtain⟨c,d,e⟩:=A0e H enc w base spare held n1 _ _ g1;exact⟨⟨a0,c⟩,⟨[c0],[c1],rfl,r0,d⟩,⟨b,e⟩⟩
theorem qO:R9 Tryz.prog 191 Go.Sy.Pattern:=by
 intro H enc w base spare held fuel cs x h;obtain⟨hlen,hf⟩:=FB (k:=2) (by kernel_rfl) h
 match cs,hlen with
 | [c0,c1],_=>
  obtain⟨a,f,g0⟩:=hf 0 9 0 1 (by kernel_rfl);obtain⟨a0,r0,b⟩:=bI H enc w base spare held a _ _ g0;obtain⟨n1,g,g1⟩:=hf 1 72 1 1 (by kernel_rfl);obtain⟨c,d,e⟩:=A0e H enc w base spare held n1 _ _ g1;exact⟨⟨a0,c⟩,⟨[c0],[c1],rfl,r0,d⟩,⟨b,e⟩⟩
theorem fO:R9 Tryz.prog 3 Int:=vR (by kernel_rfl)
theorem A1Z:R9 Tryz.prog 106 Go.Sy.Event:=by
 intro H enc w base spare held fuel cs x h;obtain⟨hlen,hf⟩:=FB (k:=4) (by kernel_rfl) h
 match cs,hlen with
 | [c0,c1,c2,c3],_=>
  obtain⟨a,j,g0⟩:=hf 0 3 0 1 (by kernel_rfl);obtain⟨a0,r0,b⟩:=fO H enc w base spare held a _ _ g0;obtain⟨n1,l,g1⟩:=hf 1 9 1 1 (by kernel_rfl);obtain⟨c,d,e⟩:=bI H enc w base spare held n1 _ _ g1;obtain⟨f,m,g2⟩:=hf 2 104 2 2 (by kernel_rfl);obtain⟨a2,g,i⟩:=qN H enc w base spare held f _ _ g2;exact⟨⟨a0,c,a2⟩,⟨[c0],[c1,c2,c3],rfl,r0,⟨[c1],[c2,c3],rfl,d,g⟩⟩,⟨b,e,i⟩⟩
theorem A1a:R9 Tryz.prog 193 Go.Sy.Cond:=by
 intro H enc w base spare held fuel cs x h;obtain⟨hlen,hf⟩:=FB (k:=5) (by kernel_rfl) h
 match cs,hlen with
 | [c0,c1,c2,c3,c4],_=>
  obtain⟨a,m,g0⟩:=hf 0 3 0 1 (by kernel_rfl);obtain⟨a0,r0,b⟩:=fO H enc w base spare held a _ _ g0;obtain⟨n1,n,g1⟩:=hf 1 191 1 2 (by kernel_rfl);obtain⟨c,d,e⟩:=qO H enc w base spare held n1 _ _ g1;obtain⟨f,o,g2⟩:=hf 2 9 3 1 (by kernel_rfl);obtain⟨a2,g,i⟩:=bI H enc w base spare held f _ _ g2;obtain⟨n3,y3,g3⟩:=hf 3 9 4 1 (by kernel_rfl);obtain⟨a3,j,l⟩:=bI H enc w base spare held n3 _ _ g3;exact⟨⟨a0,c,a2,a3⟩,⟨[c0],[c1,c2,c3,c4],rfl,r0,⟨[c1,c2],[c3,c4],rfl,d,⟨[c3],[c4],rfl,g,j⟩⟩⟩,⟨b,e,i,l⟩⟩
theorem A1b:R9 Tryz.prog 196 Go.Sy.Action:=by
 intro H enc w base spare held fuel cs x h;obtain⟨hlen,hf⟩:=FB (k:=3) (by kernel_rfl) h
 match cs,hlen with
 | [c0,c1,c2],_=>
  obtain⟨a,f,g0⟩:=hf 0 3 0 1 (by kernel_rfl);obtain⟨a0,r0,b⟩:=fO H enc w base spare held a _ _ g0;obtain⟨n1,g,g1⟩:=hf 1 191 1 2 (by kernel_rfl);obtain⟨c,d,e⟩:=qO H enc w base spare held n1 _ _ g1;exact⟨⟨a0,c⟩,⟨[c0],[c1,c2],rfl,r0,d⟩,⟨b,e⟩⟩
theorem A5E:R9 Tryz.prog 99 (List Cond):=I5 (α:=Cond) (e:=193) (by kernel_rfl) (by kernel_rfl) A1a
theorem A1c:R9 Tryz.prog 100 (List Action):=I5 (α:=Action) (e:=196) (by kernel_rfl) (by kernel_rfl) A1b
theorem A1d:R9 Tryz.prog 102 Go.Sy.Rule:=by
 intro H enc w base spare held fuel cs x h;obtain⟨hlen,hf⟩:=FB (k:=4) (by kernel_rfl) h
 match cs,hlen with
 | [c0,c1,c2,c3],_=>
  obtain⟨a,m,g0⟩:=hf 0 9 0 1 (by kernel_rfl);obtain⟨a0,r0,b⟩:=bI H enc w base spare held a _ _ g0;obtain⟨n1,n,g1⟩:=hf 1 3 1 1 (by kernel_rfl);obtain⟨c,d,e⟩:=fO H enc w base spare held n1 _ _ g1;obtain⟨f,o,g2⟩:=hf 2 99 2 1 (by kernel_rfl);obtain⟨a2,g,i⟩:=A5E H enc w base spare held f _ _ g2;obtain⟨n3,y3,g3⟩:=hf 3 100 3 1 (by kernel_rfl);obtain⟨a3,j,l⟩:=A1c H enc w base spare held n3 _ _ g3;exact⟨⟨a0,c,a2,a3⟩,⟨[c0],[c1,c2,c3],rfl,r0,⟨[c1],[c2,c3],rfl,d,⟨[c2],[c3],rfl,g,j⟩⟩⟩,⟨b,e,i,l⟩⟩
theorem A1e:R9 Tryz.prog 124 Go.Sy.Stamp:=by
 intro H enc w base spare held fuel cs x h;obtain⟨hlen,hf⟩:=FB (k:=3) (by kernel_rfl) h
 match cs,hlen with
 | [c0,c1,c2],_=>
  obtain⟨a,f,g0⟩:=hf 0 104 0 2 (by kernel_rfl);obtain⟨a0,r0,b⟩:=qN H enc w base spare held a _ _ g0;obtain⟨n1,g,g1⟩:=hf 1 3 2 1 (by kernel_rfl);obtain⟨c,d,e⟩:=fO H enc w base spare held n1 _ _ g1;exact⟨⟨a0,c⟩,⟨[c0,c1],[c2],rfl,r0,d⟩,⟨b,e⟩⟩
theorem A5F:R9 Tryz.prog 66 (List Int):=I5 (α:=Int) (e:=3) (by kernel_rfl) (by kernel_rfl) fO
theorem A1f:R9 Tryz.prog 126 Go.Sy.Firing:=by
 intro H enc w base spare held fuel cs x h;obtain⟨hlen,hf⟩:=FB (k:=2) (by kernel_rfl) h
 match cs,hlen with
 | [c0,c1],_=>
  obtain⟨a,f,g0⟩:=hf 0 9 0 1 (by kernel_rfl);obtain⟨a0,r0,b⟩:=bI H enc w base spare held a _ _ g0;obtain⟨n1,g,g1⟩:=hf 1 66 1 1 (by kernel_rfl);obtain⟨c,d,e⟩:=A5F H enc w base spare held n1 _ _ g1;exact⟨⟨a0,c⟩,⟨[c0],[c1],rfl,r0,d⟩,⟨b,e⟩⟩
theorem A5G:R9 Tryz.prog 22 (List Rule):=I5 (α:=Rule) (e:=102) (by kernel_rfl) (by kernel_rfl) A1d
theorem A5H:R9 Tryz.prog 23 (List Stamp):=I5 (α:=Stamp) (e:=124) (by kernel_rfl) (by kernel_rfl) A1e
theorem A5I:R9 Tryz.prog 24 (List Firing):=I5 (α:=Firing) (e:=126) (by kernel_rfl) (by kernel_rfl) A1f
theorem A7P:R9 Tryz.prog 4 Bool:=oW (by kernel_rfl)
theorem A5J:R9 Tryz.prog 25 (List Event):=I5 (α:=Event) (e:=106) (by kernel_rfl) (by kernel_rfl) A1Z
theorem A5K:R9 Tryz.prog 27 Go.Sy.Engine:=by
 intro H enc w base spare held fuel cs x h;obtain⟨hlen,hf⟩:=FB (k:=6) (by kernel_rfl) h
 match cs,hlen with
 | [c0,c1,c2,c3,c4,c5],_=>
  obtain⟨a,q,g0⟩:=hf 0 22 0 1 (by kernel_rfl);obtain⟨a0,r0,b⟩:=A5G H enc w base spare held a _ _ g0;obtain⟨n1,r,g1⟩:=hf 1 23 1 1 (by kernel_rfl);obtain⟨c,d,e⟩:=A5H H enc w base spare held n1 _ _ g1;obtain⟨f,s,g2⟩:=hf 2 3 2 1 (by kernel_rfl);obtain⟨a2,g,i⟩:=fO H enc w base spare held f _ _ g2;obtain⟨n3,y3,g3⟩:=hf 3 24 3 1 (by kernel_rfl);obtain⟨a3,j,l⟩:=A5I H enc w base spare held n3 _ _ g3;obtain⟨n4,y4,g4⟩:=hf 4 4 4 1 (by kernel_rfl);obtain⟨a4,m,n⟩:=A7P H enc w base spare held n4 _ _ g4;obtain⟨n5,t,g5⟩:=hf 5 25 5 1 (by kernel_rfl);obtain⟨a5,o,p⟩:=A5J H enc w base spare held n5 _ _ g5;exact⟨⟨a0,c,a2,a3,a4,a5⟩,⟨[c0],[c1,c2,c3,c4,c5],rfl,r0,⟨[c1],[c2,c3,c4,c5],rfl,d,⟨[c2],[c3,c4,c5],rfl,g,⟨[c3],[c4,c5],rfl,j,⟨[c4],[c5],rfl,m,o⟩⟩⟩⟩⟩,⟨b,e,i,l,n,p⟩⟩
end Go.Sy
