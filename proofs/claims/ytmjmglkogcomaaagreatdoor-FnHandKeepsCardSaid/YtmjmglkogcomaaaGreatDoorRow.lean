/-
  From a walk to the given statement: arguments are opened, and a law's end is shut, whatever the types.
  Conditions: none.
-/
import Derived.Test.YtmjmglkogcomaaaGreatDoorRows
import Derived.Test.YtmjmglkogcomaaaGreatDoorOwn2
import Derived.ProofKit
import Derived.Carry
import Derived.Deep.Slices
import Derived.ChangeSame
import Derived.JoinedCond
import Derived.OpenShut
namespace Go.Sy
open Go Go.ChangeShapes Go.WideShapes Go.ChangeAt Go.RowKit Go.Deep
class Dk (α:Type) where
  ok:α->Prop
instance:Dk Int:=⟨λn=> -9223372036854775808<=n/\n<=9223372036854775807⟩
instance:Dk Bool:=⟨λ_=>True⟩
instance:Dk ByteArray:=⟨λs=>s.size<=9223372036854775807⟩
instance{α:Type} [Dk α]:Dk (List α):=⟨λl=>∀x∈l,Dk.ok x⟩
section
variable {H:Type} {enc:TypeId × Value->H} {P:Program} {w:World} {base:Nat} {spare:Nat->Bool} {held:Bool}
def R9(P:Program)(t:TypeId)(α:Type) [Gd α] [Dk α]:Prop:=
 ∀(H:Type) (enc:TypeId × Value->H) (w:World) (base:Nat) (spare:Nat->Bool) (held:Bool) (fuel:Nat) (cs:List Value) (x:DataW H × List MemPlace),
  DataW.trod enc P w base spare held fuel t cs=some x->∃a:α,Gd.rd w cs a/\Dk.ok a
theorem I5{α:Type} [Gd α] [Tid α] [Dk α]{t e:TypeId}(g:P.underlying t=some (.slice e))(hc:P.cellsOf e=Gd.n α)(he:R9 P e α):R9 P t (List α):=by
 intro H enc w base spare held fuel cs x h
 rcases open_slice g h with ⟨h0,_⟩|⟨a,f,cap,m,n,D,Pl,s,_,hl,r,hm,_,v⟩
 ·exact⟨[],⟨none,0,h0,by simp[maxLen],λi x b=>by simp at b⟩,λx b=>by cases b⟩
 ·have a2:f<=m:=by rw[hm];split<;>omega
  have key:∀k,k<=f->∃l:List α,l.length=k/\∀(i:Nat) (x:α),l[i]?=some x->
    (∃es,(∀(j:Nat) u,es[j]?=some u->w.cell? (a.add (i*Gd.n α+j))=some u)/\Gd.rd w es x)/\Dk.ok x:=by
   intro k
   induction k with
   |zero=>exact λ_=>⟨[],rfl,λi x b=>by simp at b⟩
   | succ k ih=>
    intro hk;obtain⟨l,c,d⟩:=ih (by omega);obtain⟨cs',o,a0⟩:=v k (by omega);obtain⟨y,hy,q⟩:=he H enc w base spare held n cs' _ a0;refine⟨l++ [y],by simp[c],λi x b=>?_⟩
    by_cases hik:i<l.length
    ·rw[List.getElem?_append_left hik] at b;exact d i x b
    ·have z:=lS b;simp only[List.length_append,List.length_singleton] at z;have e:i=k:=by omega
     subst e;rw[List.getElem?_append_right (by omega),c] at b;simp only[Nat.sub_self,List.getElem?_cons_zero,Option.some.injEq] at b;subst b;refine⟨⟨cs',λj u g=>?_,hy⟩,q⟩;obtain⟨_,a1,p⟩:=World.cells?_some o;have hj:j<P.cellsOf e:=by have:=lS g;omega
     have:=p j hj;rw[add_add,hc] at this;rw[this];exact g
  obtain⟨l,c,d⟩:=key f (Nat.le_refl _);subst c;refine⟨l,⟨some a,cap,s,⟨hl,r⟩,λi x b=>?_⟩,λx b=>?_⟩
  ·obtain⟨⟨es,h1,h2⟩,_⟩:=d i x b;exact⟨a,es,rfl,h1,h2⟩
  ·obtain⟨i,v⟩:=List.getElem?_of_mem b;exact(d i x v).2
theorem B0q{α:Type} [Gd α] [Tid α] [Dk α]{t e:TypeId}{r:Reach}{c:Nat}{v:Value}{d:DataW H}{p:List MemPlace}(f:R9 P t (List α))(hu:P.underlying t=some (.slice e))(g:Value.okWide P w r c t v)
  (h:DataW.Trod enc P w base spare held t v d p):∃(a:List α),Gd.rd w [v] a/\Dk.ok a:=by
 obtain⟨ad,j,cap,rfl⟩:=okWide_slice hu g;obtain⟨b,i⟩:=h;exact f H enc w base spare held b _ _ i
theorem ON{W b:World}{sp:Nat->Bool}(hl:laidOutB P=true):∀{ts:List TypeId} {vs:List Value} {ds:List (DataW H)} {ps:List MemPlace},(∀t∈ts,P.readableRec t=true/\t<P.types.size)->
  DataW.TrodAll enc P W base (λ_=>true) true ts vs ds ps->(∀p∈ps,W.sameAt b p)->(∀p∈ps,sp p.block=true)->DataW.TrodAll enc P b base sp true ts vs ds ps
 | [],[],[],_,_,h,_,_=>h
 | [],[],_::_,_,_,h,_,_=>h.elim
 | [],_::_,_,_,_,h,_,_=>h.elim
 |_::_,[],_,_,_,h,_,_=>h.elim
 |_::_,_::_,[],_,_,h,_,_=>h.elim
 | t::ts,v::vs,d::ds,ps,hr,h,hs,hsp=>by
  obtain⟨p,q,h1,c,e⟩:=h;subst e;exact⟨p,q,WideElems.Trod_stays hl (hr t (by simp)).1 (hr t (by simp)).2 h1 (λx a=>hs x (by simp[a])) (λx a=>hsp x (by simp[a])),
   ON hl (λx a=>hr x (by simp[a])) c (λx a=>hs x (by simp[a])) (λx a=>hsp x (by simp[a])),rfl⟩
theorem oZ{f:Func}{s:ChangeSpec}{W m:World}{args:Array Value}{ds gs:List (DataW H)}{before:List MemPlace}{tb:TypeId}(hl:laidOutB P=true)(a1:∀t∈f.params.toList,P.readableRec t=true/\t<P.types.size)
  (c:s.vars=[]) (e:f.resultTypes= #[tb]) (n:P.underlying tb=some .bool) (a2:∀H ds,ds.length=f.params.size->(s.fn H ds).results=[.lit (.bool true)]/\(s.fn H ds).args=ds/\(s.fn H ds).vars=[])
  (hW:DataW.Whole enc P f.params.toList s.vars false W args.toList ds gs before) (hb:Below W.heap.size W m):s.post enc P f false true false false W args (.bool true) m:=by
 have o:=hW;obtain⟨p,q,hA,hV,rfl,a4,a5⟩:=hW;rw[c] at hV;obtain⟨rfl,rfl⟩:=trodVars_none hV;have z:ds.length=f.params.size:=by
  have :∀(ts:List TypeId) (vs:List Value) (ds:List (DataW H)) (ps:List MemPlace),DataW.TrodAll enc P W 0 (λ_=>true) true ts vs ds ps->ds.length=ts.length:=by
   intro ts
   induction ts with
   |nil=>intro vs ds ps h;cases vs<;>cases ds<;>first|rfl|exact h.elim
   | cons t ts ih=>
    intro vs ds ps h
    cases vs with
    |nil=>exact h.elim
    | cons v vs=>
     cases ds with
     |nil=>exact h.elim
     | cons d ds=>
      obtain⟨p,q,_,h2,_⟩:=h;simp[ih vs ds q h2]
  simpa using this _ _ _ _ hA
 obtain⟨e1,e2,e3⟩:=a2 H (ds++ []) (by simpa using z);have l:∀x∈p++ [],x.block<W.heap.size:=λx a=>o.lt x a
 have a0:∀x∈p++ [],(λb=>decide (b<W.heap.size)) x.block=true:=λx a=>by simpa using l x a
 have g:∀i:Nat->Bool,(∀x∈p++ [],i x.block=true)->DataW.TrodAll enc P m 0 i true f.params.toList args.toList (s.fn H (ds++ [])).args p:=λi a3=>by
  rw[e2,List.append_nil];exact ON hl a1 hA (λx a=>hb.same (l x (by simp[a]))) (λx a=>a3 x (by simp[a]))
 have y:∀i:Nat->Bool,DataW.TrodVars enc P m i s.vars (s.fn H (ds++ [])).vars []:=λi=>by rw[e3,c];rfl
 have k:∀(b:Nat) (i:Nat->Bool) (hd:Bool),DataW.TrodAll enc P m b i hd f.resultTypes.toList ((Value.bool true).resultList f.resultTypes.size) (s.fn H (ds++ [])).results []:=λb i hd=>by
  rw[e1,e];exact trodAll_cons_mk (shut_bool n _) trodAll_mk0
 refine⟨ds,[],p++ [],[],p,[],o,k _ _ _,g _ a0,y _,World.keptBut_mono (λx a=>⟨a,?_⟩) (hb.frame (·∈p++ [])),λ_=>?_⟩
 ·exact Or.inr (by simpa using a)
 ·refine⟨?_,_,_,([]++p)++ [],⟨[]++p,[],trodAll_append (g _ (λ_ _=>rfl)) (k _ _ _),y _,rfl,?_,?_⟩,?_⟩
  ·rw[e];exact ok_one (f:=f) (by rw[e]) (by rfl) (okWide_bool_mk n _)|>λh=>by
    intro j t r hj hr;exact h j t r (by rw[e];exact hj) (by rw[e];exact hr)
  ·intro b off hp;have u:MemPlace.cell b off∈p++ []:=by simpa using hp
   rw[hb.frozen (l _ u)];exact a4 b off u
  ·intro ha;cases ha
  ·intro x a _;simpa using a
end
end Go.Sy
