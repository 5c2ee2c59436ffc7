/-
  Contracts of functions of the program, walked (printed by a program of ours).
  Conditions: those that each theorem states.
-/
import Derived.Test.YtfmjgnjaoihefaaGreatDoorCmp1
import Derived.Test.YtfmjgnjaoihefaaGreatDoorSorts
set_option linter.unusedVariables false
set_option maxRecDepth 20000
namespace Go.Sy.Srt2
open Go Go.RowKit Go.Proofs Go.Sy
theorem mixed:Tryz.prog.follows .mixedOrders=true:=by kernel_rfl
open Go.Sy.Bel1 Go.Sy.Ev1 Go.Sy.Ev2 Go.Sy.Ev3 Go.Sy.Fmt1 Go.Sy.Eng1 Go.Sy.Eng2 Go.Sy.Eng3 Go.Sy.Num1 Go.Sy.Num2 Go.Sy.Fal2 Go.Sy.Cho2 Go.Sy.Pdqs Go.Sy.Fal1 Go.Sy.Cmp1 Go.Sy.Sorts
theorem A2m:(Tryz.prog.info? 55).map (·.desc)=some (.slice 68):=by kernel_rfl
theorem A2n:(Tryz.prog.info? 68).map (λi=>(i.size,i.bytes,i.hasPointers))=some (7,112,true):=by kernel_rfl
theorem A2o:Tryz.prog.packed 55=false:=by kernel_rfl
theorem hF:AA Tryz.prog 170=true:=by kernel_rfl
theorem A2p:Tryz.prog.funcs.findIdx? (·.name== "internal/reflectlite" ++ ".Swapper$" ++toString 1)=some 257:=by kernel_rfl
theorem A2q:Tryz.prog.funcs.findIdx? (·.name== "internal/reflectlite" ++ ".Swapper$" ++toString 2)=some 258:=by kernel_rfl
theorem A2r:Tryz.prog.funcs.findIdx? (·.name== "internal/reflectlite" ++ ".Swapper$" ++toString 9)=some 265:=by kernel_rfl
theorem A2s(args:Array Value)(W:World):(callFunc 265 args).run Tryz.prog W=((Extern.ReflectliteSwapper.swap false args).run Tryz.prog W).andThen λv w'=> .ok (.value v) w':=
 run_callFunc_extern Tryz.func265 (by kernel_rfl) (by kernel_rfl) (by kernel_rfl) (by kernel_rfl) args W
theorem zC{w0:World}{a:List Chunk}{w:World}{d:List Choice}{g:Nat}{v:Value}(a1:d.length<=4294967296)(s:Tb w0)(t:∀x∈d,x.Times.length<=12)(o:St w0 (star (bx g [v]) (ov [v] d)::a) w):
  Calls Tryz.prog 169 [.iface 55 v, .func (.func 170) #[] [Value.pointer (some ⟨g,0,none⟩)].toArray].toArray w (λe w'=>e= .returned (.tuple #[])/\∃e',(e'=BY d)/\St w0 (star (bx g [v]) (ov [v] e')::a) w'):=by
 obtain⟨i,hi,hdd⟩:∃i,Tryz.prog.info? 55=some i/\i.desc= .slice 68:=by
  have h:=A2m;rw[Option.map_eq_some_iff] at h;exact h
 obtain⟨ie,hie,m⟩:∃i,Tryz.prog.info? 68=some i/\(i.size,i.bytes,i.hasPointers)=(7,112,true):=by
  have h:=A2n;rw[Option.map_eq_some_iff] at h;exact h
 simp only[Prod.mk.injEq] at m;obtain⟨u,z,a0⟩:=m;have hke:∀w,(Extern.Rtype.kind 68).run Tryz.prog w= .ok 25 w:=λw=>by kernel_rfl
 have hagg:∀w,(isAgg 68).run Tryz.prog w= .ok true w:=λw=>by kernel_rfl
 obtain⟨p,c,hv⟩:∃p c,v= .slice p d.length c:=AE (α:=Choice) (rO (k:=1) o.split rfl);subst hv
 let f:Nat->Choice:=A d
 let C:List Nat->Chunk:=λe=>star (bx g [.slice p d.length c]) (ov [.slice p d.length c] (e.map f))
 let lt:Nat->Nat->Bool:=λx y=>yK (f x) (f y)
 have hord:Ordr lt:=nE tJ f;have h0:C (List.range d.length)=star (bx g [.slice p d.length c]) (ov [.slice p d.length c] d):=by show star _ (ov _ ((List.range d.length).map (A d)))=_;rw[yG]
 have hr:(List.range d.length).length=d.length:=List.length_range;have hless:∀(a:List Chunk) (w:World) (e:List Nat) (i j:Nat),List.Perm e (List.range d.length)->i<(List.range d.length).length->j<(List.range d.length).length->St w0 (C e::a) w->
   Calls Tryz.prog 170 ([Value.int .i64 (i:Int),Value.int .i64 (j:Int)]++ [Value.pointer (some ⟨g,0,none⟩)]).toArray w (λe' w'=>e'= .returned (.bool (lt (A e i) (A e j)))/\St w0 (C e::a) w'):=λa w e i j hp h1 l hs=>by
  have r:St w0 (bx g [.slice p d.length c]::ov [.slice p d.length c] (e.map f)::a) w:=hs.split;have hl:=hp.length_eq;have hm:(e.map f).length=d.length:=by rw[List.length_map,hl,hr]
  have hmem:∀q,q<(e.map f).length->(A (e.map f) q).Times.length<=12:=λq hq=>by
   rw[List.length_map] at hq;rw[dN hq];have hlt:A e q<d.length:=by
    have:A e q∈List.range d.length:=hp.mem_iff.1 (List.mem_of_getElem? (OY hq));simpa using this
   exact t _ (List.mem_of_getElem? (OY hlt))
  have h:=PS w (i:Int) (j:Int) ⟨g,0,none⟩ _ (e.map f) (zK (k:=0) r rfl) (rO (k:=1) r rfl) (by omega) (by omega) (by omega) (by omega) (s.ext hs.bel) (by simpa using hmem i (by omega)) (by simpa using hmem j (by omega));have e1:A (e.map f) i=f (A e i):=dN (by omega);have e2:A (e.map f) j=f (A e j):=dN (by omega);have e3:yK (A (e.map f) i) (A (e.map f) j)=yK (f (A e i)) (f (A e j)):=by rw[e1,e2]
  exact h.mono λe' w' ⟨he,hx⟩=>⟨he.trans (congrArg (λb=>Ending.returned (Value.bool b)) e3),hs.ext hx⟩
 have fin:∀(sf:Nat) (sc:List Value),Srt Tryz.prog C lt (List.range d.length) 170 [Value.pointer (some ⟨g,0,none⟩)] sf sc w0->
   (∀w,(Extern.ReflectliteSwapper.swapper "internal/reflectlite" (Extern.ReflectliteValue.valueError "Swapper") #[.iface 55 (.slice p d.length c)]).run Tryz.prog w= .ok (.func (.func sf) #[] sc.toArray) w)->
   Calls Tryz.prog 169 [.iface 55 (.slice p d.length c), .func (.func 170) #[] [Value.pointer (some ⟨g,0,none⟩)].toArray].toArray w (λe w'=>e= .returned (.tuple #[])/\∃e',(e'=BY d)/\St w0 (star (bx g [.slice p d.length c]) (ov [.slice p d.length c] e')::a) w'):=λsf sc S hsw=>
  (R0 S hord (by omega) a w (List.range d.length) (List.Perm.refl _) hi hdd A2o hr.symm hsw (by rw[h0];exact o)).mono λe w' ⟨he,e',⟨h1,l,h4⟩,n⟩=>by
   refine⟨he,BY d,Y,?_⟩;have h5:e'.map f=BY d:=mV (lt:=yK) hord h1 (by first|exact l|(rw[hr] at l;exact l)) (h4 id (mW d.length));have h6:C e'=star (bx g [.slice p d.length c]) (ov [.slice p d.length c] (BY d)):=by show star _ (ov _ (e'.map f))=_;rw[h5]
   rw[<-h6];exact n
 have small:d.length<2->∀(a:List Chunk) (w:World) (e:List Nat) (i j:Nat) (sf:Nat) (sc:List Value),List.Perm e (List.range d.length)->i<(List.range d.length).length->j<(List.range d.length).length->i≠j->St w0 (C e::a) w->
   ∃w',(callFunc sf ([Value.int .i64 (i:Int),Value.int .i64 (j:Int)]++sc).toArray).run Tryz.prog w= .ok (.value (.tuple #[])) w'/\St w0 (C (swp e i j)::a) w':=λh a w e i j sf sc _ h1 l n _=>by omega
 by_cases c0:d.length=0
 ·have hk:Lib.swapperK d.length ie 25=1:=by simp[Lib.swapperK,c0]
  refine fin 257 [] ⟨hF,hless,λa w e i j hp h1 l n hs=>small (by omega) a w e i j _ _ hp h1 l n hs⟩ (λw=>?_);have h:=Lib.run_swapper_slice (P:=Tryz.prog) 55 68 i ie hi hdd hie 25 hke p d.length c 257 (by rw[hk];exact A2p) w;rw[hk] at h;simpa using h
 ·by_cases c1:d.length=1
  ·have hk:Lib.swapperK d.length ie 25=2:=by simp[Lib.swapperK,c1]
   refine fin 258 [] ⟨hF,hless,λa w e i j hp h1 l n hs=>small (by omega) a w e i j _ _ hp h1 l n hs⟩ (λw=>?_);have h:=Lib.run_swapper_slice (P:=Tryz.prog) 55 68 i ie hi hdd hie 25 hke p d.length c 258 (by rw[hk];exact A2q) w;rw[hk] at h;simpa using h
  ·have hk:Lib.swapperK d.length ie 25=9:=by simp[Lib.swapperK,c0,c1,z,a0]
   refine fin 265 [.slice p d.length c,typeHandle Tryz.prog 68] ⟨hF,hless,λa w e i j hp h1 l n hs=>?_⟩ (λw=>?_)
   ·have hl:=hp.length_eq;have h:=tB (i:=i) (j:=j) hie u hagg A2s (by rw[List.length_map];omega) (by rw[List.length_map];omega) hs;show∃w',_/\St w0 (star _ (ov _ ((swp e i j).map f))::a) w';rw[yF (by omega) (by omega)];simpa only[hl,hr] using h
   ·have h:=Lib.run_swapper_slice (P:=Tryz.prog) 55 68 i ie hi hdd hie 25 hke p d.length c 265 (by rw[hk];exact A2r) w;rw[hk] at h;simpa using h
end Go.Sy.Srt2
