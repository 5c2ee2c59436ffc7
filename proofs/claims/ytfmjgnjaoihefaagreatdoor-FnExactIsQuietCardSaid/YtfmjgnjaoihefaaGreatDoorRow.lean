/-
  From a walk to the given statement: arguments are opened, and a law's end is shut, whatever the types.
  Conditions: none.
-/
import Derived.Test.YtfmjgnjaoihefaaGreatDoorRows
import Derived.Test.YtfmjgnjaoihefaaGreatDoorOwn2
import Derived.ProofKit
import Derived.Carry
import Derived.Deep.Slices
import Derived.ChangeSame
import Derived.JoinedCond
import Derived.OpenShut
namespace Go.Sy
open Go Go.ChangeShapes Go.WideShapes Go.ChangeAt Go.RowKit Go.Deep
class Dk (α:Type) where
  ok:α->Prop
instance:Dk Int:=⟨λn=> -9223372036854775808<=n/\n<=9223372036854775807⟩
instance:Dk Bool:=⟨λ_=>True⟩
instance:Dk ByteArray:=⟨λs=>s.size<=9223372036854775807⟩
instance{α:Type} [Dk α]:Dk (List α):=⟨λl=>∀x∈l,Dk.ok x⟩
section
variable {H:Type} {enc:TypeId × Value->H} {P:Program} {w:World} {base:Nat} {spare:Nat->Bool} {held:Bool}
def R9(P:Program)(t:TypeId)(α:Type) [Gd α] [Dk α]:Prop:=
 ∀(H:Type) (enc:TypeId × Value->H) (w:World) (base:Nat) (spare:Nat->Bool) (held:Bool) (fuel:Nat) (cs:List Value) (x:DataW H × List MemPlace),
  DataW.trod enc P w base spare held fuel t cs=some x->∃a:α,Gd.rd w cs a/\Dk.ok a
theorem vR{t:TypeId}(hu:P.underlying t=some (.int .i64)):R9 P t Int:=by
 intro H enc w base spare held fuel cs x h;obtain⟨n,rfl,_,hwf⟩:=DataW.trod_int hu h;refine⟨n,rfl,?_⟩;have a: -9223372036854775808<=n/\n<=9223372036854775807:=by simpa [Lit.wf,IntKind.min,IntKind.max,IntKind.signed,IntKind.bits] using hwf
 exact a
theorem oW{t:TypeId}(hu:P.underlying t=some .bool):R9 P t Bool:=by
 intro H enc w base spare held fuel cs x h;obtain⟨b,rfl,_⟩:=DataW.trod_bool hu h;exact⟨b,rfl,trivial⟩
theorem fH{t:TypeId}(hu:P.underlying t=some .string):R9 P t ByteArray:=by
 intro H enc w base spare held fuel cs x h;obtain⟨s,rfl,_,hm⟩:=DataW.trod_string hu h;have a:s.size<=9223372036854775807:=by simpa [maxLen] using hm
 exact⟨s,rfl,a⟩
theorem I5{α:Type} [Gd α] [Tid α] [Dk α]{t e:TypeId}(hu:P.underlying t=some (.slice e))(hc:P.cellsOf e=Gd.n α)(b:R9 P e α):R9 P t (List α):=by
 intro H enc w base spare held fuel cs x h
 rcases open_slice hu h with ⟨h0,_⟩|⟨a,len,cap,m,n,D,Pl,hcs,_,hl,hmx,hm,_,hi⟩
 ·exact⟨[],⟨none,0,h0,by simp[maxLen],λi x hx=>by simp at hx⟩,λx hx=>by cases hx⟩
 ·have hle:len<=m:=by rw[hm];split<;>omega
  have key:∀k,k<=len->∃l:List α,l.length=k/\∀(i:Nat) (x:α),l[i]?=some x->
    (∃es,(∀(j:Nat) u,es[j]?=some u->w.cell? (a.add (i*Gd.n α+j))=some u)/\Gd.rd w es x)/\Dk.ok x:=by
   intro k
   induction k with
   |zero=>exact λ_=>⟨[],rfl,λi x hx=>by simp at hx⟩
   | succ k ih=>
    intro hk;obtain⟨l,hlen,hall⟩:=ih (by omega);obtain⟨cs',hc',ht'⟩:=hi k (by omega);obtain⟨y,hy,hok⟩:=b H enc w base spare held n cs' _ ht';refine⟨l++ [y],by simp[hlen],λi x hx=>?_⟩
    by_cases hik:i<l.length
    ·rw[List.getElem?_append_left hik] at hx;exact hall i x hx
    ·have hlt:=lS hx;simp only[List.length_append,List.length_singleton] at hlt;have e:i=k:=by omega
     subst e;rw[List.getElem?_append_right (by omega),hlen] at hx;simp only[Nat.sub_self,List.getElem?_cons_zero,Option.some.injEq] at hx;subst hx;refine⟨⟨cs',λj u hu=>?_,hy⟩,hok⟩;obtain⟨_,hcl,hat⟩:=World.cells?_some hc';have hj:j<P.cellsOf e:=by have:=lS hu;omega
     have:=hat j hj;rw[add_add,hc] at this;rw[this];exact hu
  obtain⟨l,hlen,hall⟩:=key len (Nat.le_refl _);subst hlen;refine⟨l,⟨some a,cap,hcs,⟨hl,hmx⟩,λi x hx=>?_⟩,λx hx=>?_⟩
  ·obtain⟨⟨es,h1,c⟩,_⟩:=hall i x hx;exact⟨a,es,rfl,h1,c⟩
  ·obtain⟨i,hi⟩:=List.getElem?_of_mem hx;exact(hall i x hi).2
theorem fJ{α:Type} [Gd α] [Dk α]{t:TypeId}{fs:Array Field}{r:Reach}{b:Nat}{v:Value}{d:DataW H}{p:List MemPlace}(c:R9 P t α)(hu:P.underlying t=some (.struct fs))(e:Value.okWide P w r b t v)
  (h:DataW.Trod enc P w base spare held t v d p):∃(cs:List Value) (a:α),v= .agg cs.toArray/\Gd.rd w cs a/\Dk.ok a:=by
 obtain⟨cs,rfl,_⟩:=okWide_struct hu e;obtain⟨fuel,hf⟩:=h;obtain⟨a,ha,hok⟩:=c H enc w base spare held fuel _ _ hf;exact⟨cs.toList,a,by simp,ha,hok⟩
theorem ON{W a:World}{sp:Nat->Bool}(hl:laidOutB P=true):∀{ts:List TypeId} {vs:List Value} {ds:List (DataW H)} {ps:List MemPlace},(∀t∈ts,P.readableRec t=true/\t<P.types.size)->
  DataW.TrodAll enc P W base (λ_=>true) true ts vs ds ps->(∀p∈ps,W.sameAt a p)->(∀p∈ps,sp p.block=true)->DataW.TrodAll enc P a base sp true ts vs ds ps
 | [],[],[],_,_,h,_,_=>h
 | [],[],_::_,_,_,h,_,_=>h.elim
 | [],_::_,_,_,_,h,_,_=>h.elim
 |_::_,[],_,_,_,h,_,_=>h.elim
 |_::_,_::_,[],_,_,h,_,_=>h.elim
 | t::ts,v::vs,d::ds,ps,hr,h,hs,hsp=>by
  obtain⟨p,q,h1,b,e⟩:=h;subst e;exact⟨p,q,WideElems.Trod_stays hl (hr t (by simp)).1 (hr t (by simp)).2 h1 (λx hx=>hs x (by simp[hx])) (λx hx=>hsp x (by simp[hx])),
   ON hl (λx hx=>hr x (by simp[hx])) b (λx hx=>hs x (by simp[hx])) (λx hx=>hsp x (by simp[hx])),rfl⟩
theorem oZ{f:Func}{s:ChangeSpec}{W e:World}{args:Array Value}{ds gs:List (DataW H)}{before:List MemPlace}{tb:TypeId}(hl:laidOutB P=true)(i:∀t∈f.params.toList,P.readableRec t=true/\t<P.types.size)
  (a:s.vars=[]) (c:f.resultTypes= #[tb]) (g:P.underlying tb=some .bool) (k:∀H ds,ds.length=f.params.size->(s.fn H ds).results=[.lit (.bool true)]/\(s.fn H ds).args=ds/\(s.fn H ds).vars=[])
  (hW:DataW.Whole enc P f.params.toList s.vars false W args.toList ds gs before) (hb:Below W.heap.size W e):s.post enc P f false true false false W args (.bool true) e:=by
 have hW':=hW;obtain⟨p,q,hA,hV,rfl,hfz,hnd⟩:=hW;rw[a] at hV;obtain⟨rfl,rfl⟩:=trodVars_none hV;have hlen:ds.length=f.params.size:=by
  have :∀(ts:List TypeId) (vs:List Value) (ds:List (DataW H)) (ps:List MemPlace),DataW.TrodAll enc P W 0 (λ_=>true) true ts vs ds ps->ds.length=ts.length:=by
   intro ts
   induction ts with
   |nil=>intro vs ds ps h;cases vs<;>cases ds<;>first|rfl|exact h.elim
   | cons t ts ih=>
    intro vs ds ps h
    cases vs with
    |nil=>exact h.elim
    | cons v vs=>
     cases ds with
     |nil=>exact h.elim
     | cons d ds=>
      obtain⟨p,q,_,l,_⟩:=h;simp[ih vs ds q l]
  simpa using this _ _ _ _ hA
 obtain⟨m,n,o⟩:=k H (ds++ []) (by simpa using hlen);have hlt:∀x∈p++ [],x.block<W.heap.size:=λx hx=>hW'.lt x hx
 have hold:∀x∈p++ [],(λb=>decide (b<W.heap.size)) x.block=true:=λx hx=>by simpa using hlt x hx
 have hargs:∀sp:Nat->Bool,(∀x∈p++ [],sp x.block=true)->DataW.TrodAll enc P e 0 sp true f.params.toList args.toList (s.fn H (ds++ [])).args p:=λsp hsp=>by
  rw[n,List.append_nil];exact ON hl i hA (λx hx=>hb.same (hlt x (by simp[hx]))) (λx hx=>hsp x (by simp[hx]))
 have hvs:∀sp:Nat->Bool,DataW.TrodVars enc P e sp s.vars (s.fn H (ds++ [])).vars []:=λsp=>by rw[o,a];rfl
 have hres:∀(b:Nat) (sp:Nat->Bool) (hd:Bool),DataW.TrodAll enc P e b sp hd f.resultTypes.toList ((Value.bool true).resultList f.resultTypes.size) (s.fn H (ds++ [])).results []:=λb sp hd=>by
  rw[m,c];exact trodAll_cons_mk (shut_bool g _) trodAll_mk0
 refine⟨ds,[],p++ [],[],p,[],hW',hres _ _ _,hargs _ hold,hvs _,World.keptBut_mono (λx hx=>⟨hx,?_⟩) (hb.frame (·∈p++ [])),λ_=>?_⟩
 ·exact Or.inr (by simpa using hx)
 ·refine⟨?_,_,_,([]++p)++ [],⟨[]++p,[],trodAll_append (hargs _ (λ_ _=>rfl)) (hres _ _ _),hvs _,rfl,?_,?_⟩,?_⟩
  ·rw[c];exact ok_one (f:=f) (by rw[c]) (by rfl) (okWide_bool_mk g _)|>λh=>by
    intro j t r hj hr;exact h j t r (by rw[c];exact hj) (by rw[c];exact hr)
  ·intro b off hp;have hin:MemPlace.cell b off∈p++ []:=by simpa using hp
   rw[hb.frozen (hlt _ hin)];exact hfz b off hin
  ·intro ha;cases ha
  ·intro x hx _;simpa using hx
end
end Go.Sy
