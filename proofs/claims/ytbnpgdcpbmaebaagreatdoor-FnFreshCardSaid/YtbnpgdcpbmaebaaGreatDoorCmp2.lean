/-
  Contracts of functions of the program, walked (printed by a program of ours).
  Conditions: those that each theorem states.
-/
import Derived.Test.YtbnpgdcpbmaebaaGreatDoorCmp1
import Derived.Test.YtbnpgdcpbmaebaaGreatDoorSorts
import Derived.Test.YtbnpgdcpbmaebaaGreatDoorFct
section
set_option linter.unusedVariables false
set_option maxRecDepth 20000
namespace Go.Sy.Srt2
open Go Go.RowKit Go.Proofs Go.Sy
theorem mixed:Tryz.prog.follows .mixedOrders=true:=by kernel_rfl
open Go.Sy.Bel1 Go.Sy.Ev1 Go.Sy.Ev3 Go.Sy.Fmt1 Go.Sy.Eng1 Go.Sy.Eng2 Go.Sy.Eng3 Go.Sy.Num1 Go.Sy.Num2 Go.Sy.Fal2 Go.Sy.Cho2 Go.Sy.Pdqs Go.Sy.Fal1 Go.Sy.Cmp1 Go.Sy.Sorts
theorem A2m:(Tryz.prog.info? 66).map (·.desc)=some (.slice 74):=by kernel_rfl
theorem A2n:(Tryz.prog.info? 74).map (λi=>(i.size,i.bytes,i.hasPointers))=some (7,112,true):=by kernel_rfl
theorem A2o:Tryz.prog.packed 66=false:=by kernel_rfl
theorem hF:AA Tryz.prog 99=true:=by kernel_rfl
theorem A2p:Tryz.prog.funcs.findIdx? (·.name== "internal/reflectlite" ++ ".Swapper$" ++toString 1)=some 207:=by kernel_rfl
theorem A2q:Tryz.prog.funcs.findIdx? (·.name== "internal/reflectlite" ++ ".Swapper$" ++toString 2)=some 208:=by kernel_rfl
theorem A2r:Tryz.prog.funcs.findIdx? (·.name== "internal/reflectlite" ++ ".Swapper$" ++toString 9)=some 215:=by kernel_rfl
theorem A2s(args:Array Value)(W:World):(callFunc 215 args).run Tryz.prog W=((Extern.ReflectliteSwapper.swap false args).run Tryz.prog W).andThen λv w'=> .ok (.value v) w':=
 run_callFunc_extern Tryz.func215 (by kernel_rfl) (by kernel_rfl) (by kernel_rfl) (by kernel_rfl) args W
theorem zC{w0:World}{a:List Chunk}{w:World}{d:List Choice}{g:Nat}{v:Value}(a1:d.length<=4294967296)(s:Tb w0)(t:∀x∈d,x.Times.length<=12)(o:St w0 (star (bx g [v]) (ov [v] d)::a) w):
  Calls Tryz.prog 98 [.iface 66 v, .func (.func 99) #[] [Value.pointer (some ⟨g,0,none⟩)].toArray].toArray w (λe w'=>e= .returned (.tuple #[])/\∃e',(e'=BY d)/\St w0 (star (bx g [v]) (ov [v] e')::a) w'):=by
 obtain⟨i,hi,hdd⟩:∃i,Tryz.prog.info? 66=some i/\i.desc= .slice 74:=by
  have h:=A2m;rw[Option.map_eq_some_iff] at h;exact h
 obtain⟨ie,hie,m⟩:∃i,Tryz.prog.info? 74=some i/\(i.size,i.bytes,i.hasPointers)=(7,112,true):=by
  have h:=A2n;rw[Option.map_eq_some_iff] at h;exact h
 simp only[Prod.mk.injEq] at m;obtain⟨u,z,a0⟩:=m;have hke:∀w,(Extern.Rtype.kind 74).run Tryz.prog w= .ok 25 w:=λw=>by kernel_rfl
 have hagg:∀w,(isAgg 74).run Tryz.prog w= .ok true w:=λw=>by kernel_rfl
 obtain⟨p,c,hv⟩:∃p c,v= .slice p d.length c:=AE (α:=Choice) (rO (k:=1) o.split rfl);subst hv
 let f:Nat->Choice:=A d
 let C:List Nat->Chunk:=λe=>star (bx g [.slice p d.length c]) (ov [.slice p d.length c] (e.map f))
 let lt:Nat->Nat->Bool:=λx y=>yK (f x) (f y)
 have hord:Ordr lt:=nE tJ f;have h0:C (List.range d.length)=star (bx g [.slice p d.length c]) (ov [.slice p d.length c] d):=by show star _ (ov _ ((List.range d.length).map (A d)))=_;rw[yG]
 have hr:(List.range d.length).length=d.length:=List.length_range;have hless:∀(a:List Chunk) (w:World) (e:List Nat) (i j:Nat),List.Perm e (List.range d.length)->i<(List.range d.length).length->j<(List.range d.length).length->St w0 (C e::a) w->
   Calls Tryz.prog 99 ([Value.int .i64 (i:Int),Value.int .i64 (j:Int)]++ [Value.pointer (some ⟨g,0,none⟩)]).toArray w (λe' w'=>e'= .returned (.bool (lt (A e i) (A e j)))/\St w0 (C e::a) w'):=λa w e i j hp h1 l hs=>by
  have r:St w0 (bx g [.slice p d.length c]::ov [.slice p d.length c] (e.map f)::a) w:=hs.split;have hl:=hp.length_eq;have hm:(e.map f).length=d.length:=by rw[List.length_map,hl,hr]
  have hmem:∀q,q<(e.map f).length->(A (e.map f) q).Times.length<=12:=λq hq=>by
   rw[List.length_map] at hq;rw[dN hq];have hlt:A e q<d.length:=by
    have:A e q∈List.range d.length:=hp.mem_iff.1 (List.mem_of_getElem? (OY hq));simpa using this
   exact t _ (List.mem_of_getElem? (OY hlt))
  have h:=PS w (i:Int) (j:Int) ⟨g,0,none⟩ _ (e.map f) (zK (k:=0) r rfl) (rO (k:=1) r rfl) (by omega) (by omega) (by omega) (by omega) (s.ext hs.bel) (by simpa using hmem i (by omega)) (by simpa using hmem j (by omega));have e1:A (e.map f) i=f (A e i):=dN (by omega);have e2:A (e.map f) j=f (A e j):=dN (by omega);have e3:yK (A (e.map f) i) (A (e.map f) j)=yK (f (A e i)) (f (A e j)):=by rw[e1,e2]
  exact h.mono λe' w' ⟨he,hx⟩=>⟨he.trans (congrArg (λb=>Ending.returned (Value.bool b)) e3),hs.ext hx⟩
 have fin:∀(sf:Nat) (sc:List Value),Srt Tryz.prog C lt (List.range d.length) 99 [Value.pointer (some ⟨g,0,none⟩)] sf sc w0->
   (∀w,(Extern.ReflectliteSwapper.swapper "internal/reflectlite" (Extern.ReflectliteValue.valueError "Swapper") #[.iface 66 (.slice p d.length c)]).run Tryz.prog w= .ok (.func (.func sf) #[] sc.toArray) w)->
   Calls Tryz.prog 98 [.iface 66 (.slice p d.length c), .func (.func 99) #[] [Value.pointer (some ⟨g,0,none⟩)].toArray].toArray w (λe w'=>e= .returned (.tuple #[])/\∃e',(e'=BY d)/\St w0 (star (bx g [.slice p d.length c]) (ov [.slice p d.length c] e')::a) w'):=λsf sc S hsw=>
  (R0 S hord (by omega) a w (List.range d.length) (List.Perm.refl _) hi hdd A2o hr.symm hsw (by rw[h0];exact o)).mono λe w' ⟨he,e',⟨h1,l,h4⟩,n⟩=>by
   refine⟨he,BY d,Y,?_⟩;have h5:e'.map f=BY d:=mV (lt:=yK) hord h1 (by first|exact l|(rw[hr] at l;exact l)) (h4 id (mW d.length));have h6:C e'=star (bx g [.slice p d.length c]) (ov [.slice p d.length c] (BY d)):=by show star _ (ov _ (e'.map f))=_;rw[h5]
   rw[<-h6];exact n
 have small:d.length<2->∀(a:List Chunk) (w:World) (e:List Nat) (i j:Nat) (sf:Nat) (sc:List Value),List.Perm e (List.range d.length)->i<(List.range d.length).length->j<(List.range d.length).length->i≠j->St w0 (C e::a) w->
   ∃w',(callFunc sf ([Value.int .i64 (i:Int),Value.int .i64 (j:Int)]++sc).toArray).run Tryz.prog w= .ok (.value (.tuple #[])) w'/\St w0 (C (swp e i j)::a) w':=λh a w e i j sf sc _ h1 l n _=>by omega
 by_cases c0:d.length=0
 ·have hk:Lib.swapperK d.length ie 25=1:=by simp[Lib.swapperK,c0]
  refine fin 207 [] ⟨hF,hless,λa w e i j hp h1 l n hs=>small (by omega) a w e i j _ _ hp h1 l n hs⟩ (λw=>?_);have h:=Lib.run_swapper_slice (P:=Tryz.prog) 66 74 i ie hi hdd hie 25 hke p d.length c 207 (by rw[hk];exact A2p) w;rw[hk] at h;simpa using h
 ·by_cases c1:d.length=1
  ·have hk:Lib.swapperK d.length ie 25=2:=by simp[Lib.swapperK,c1]
   refine fin 208 [] ⟨hF,hless,λa w e i j hp h1 l n hs=>small (by omega) a w e i j _ _ hp h1 l n hs⟩ (λw=>?_);have h:=Lib.run_swapper_slice (P:=Tryz.prog) 66 74 i ie hi hdd hie 25 hke p d.length c 208 (by rw[hk];exact A2q) w;rw[hk] at h;simpa using h
  ·have hk:Lib.swapperK d.length ie 25=9:=by simp[Lib.swapperK,c0,c1,z,a0]
   refine fin 215 [.slice p d.length c,typeHandle Tryz.prog 74] ⟨hF,hless,λa w e i j hp h1 l n hs=>?_⟩ (λw=>?_)
   ·have hl:=hp.length_eq;have h:=tB (i:=i) (j:=j) hie u hagg A2s (by rw[List.length_map];omega) (by rw[List.length_map];omega) hs;show∃w',_/\St w0 (star _ (ov _ ((swp e i j).map f))::a) w';rw[yF (by omega) (by omega)];simpa only[hl,hr] using h
   ·have h:=Lib.run_swapper_slice (P:=Tryz.prog) 66 74 i ie hi hdd hie 25 hke p d.length c 215 (by rw[hk];exact A2r) w;rw[hk] at h;simpa using h
end Go.Sy.Srt2
end
/-
  Contracts of functions of the program, walked (printed by a program of ours).
  Conditions: those that each theorem states.
-/
section
set_option linter.unusedVariables false
set_option maxRecDepth 20000
namespace Go.Sy.Cmp2
open Go Go.RowKit Go.Proofs Go.Sy
open Go.Sy.Bel1 Go.Sy.Ev1 Go.Sy.Ev3 Go.Sy.Fmt1 Go.Sy.Eng1 Go.Sy.Eng2 Go.Sy.Eng3 Go.Sy.Num1 Go.Sy.Num2 Go.Sy.Fal2 Go.Sy.Cho2 Go.Sy.Pdqs Go.Sy.Fal1 Go.Sy.Cmp1 Go.Sy.Srt2
set_option maxHeartbeats 4000000 in
theorem R1{w:World}{h:Value}{l:(List Choice)}(b:Gd.rd w [h] l)(hn:l.length<=4294967296)(y:∀x∈l,DJ x.Match<=1048576/\x.Times.length<=12)(q:Tb w):Cy 36 [h] w (HH w (BY l:(List Choice))):=by
 have a7:=rM b;refine enter 23 Tryz.func36 Y Y Y (Sr (Pe Y (Sr (aL C3s Y λg2=>?_))));refine Dx (Dh ([bx g2 [(.slice none 0 0)]]) Y (Cq (Sr (p1 Y (dl BS Y (AE b) (Pe Y (Cb (Cl (λm_ ac w'=>∃(k:Nat),∃(v:Value),(k<=l.length)/\m_=l.length-k/\Fits ac 23 [(3,(pv g2)),(6,h),(7,(nv l.length)),(8,(nv k))]/\St w ([ov [v] (l.take k:(List Choice)),bx g2 [v]]) w') ?_ ?_))))))))
 ·refine CG (α:=Choice) (A3 0 Y (show([]:(List Choice))=l.take 0 from by rfl) (λac w' hf hs=>⟨_,0,(.slice none 0 0),?_,Y,hf.wk Y,hs⟩))
  ·first|assumption|omega|simp
 ·rintro m_ ac w' ⟨k,v,hk,rfl,hf,hs⟩;refine D.use ?_ hf hs;clear hf hs ac w';have hcl:(l.take k).length<=k:=by rw[List.length_take];omega
  refine Sr (Pe Y (Dh ([_,_]) Y (Cq (Cd Y (λr=>?_) (λr=>?_)))))
  ·refine Sk (Cq (Cb (Sr ?_)));obtain⟨a,c⟩:=sI l k;have hle:=y _ (List.mem_of_getElem? c);obtain⟨a8,s,i⟩:=AC (n:=7) rfl b c;obtain⟨t,u,m,rfl,o,d,f⟩:=BF i;have z:=rM o;have a0:=rM d;have a1:=rM f;have a2:=AQ i;refine q1 Y (AJ (l:=l) (j:=k) BS Y Y Y (λw' hs=>(rA hs b)) Y (lS c)) (q1 Y (EX C3 Y Y s) (aL I6 Y λg17=>?_));refine li Y (AZ (vs:=[(.string a.Match.Rule),t,u,(iv a.Priority),m,(iv a.Specific),(iv a.Order)]) (cs':=[(.string a.Match.Rule),t,u,(iv a.Priority),m,(iv a.Specific),(iv a.Order)]) 0 TP Y Y Y Y Y Y (AB Y (AB (A2 o) (AB (A2 d) (AB Y (AB (A2 f) (AB Y (AB Y BR))))))) (by simp) Y ?_);refine Dx (Dh ([bx g17 [(.string a.Match.Rule),t,u,(iv a.Priority),m,(iv a.Specific),(iv a.Order)],_,_]) Y (A0 mixed [4,5] (by kernel_rfl) (Tk 0 Y Y (lb 2 H7 Y Y Y Y) (Tk 1 Y Y (C9 0 C3 Y Y Y) (ty 2 Y Y (zE Y B3Z Y Y Y Y (λw' hs=>(S2 (rA hs i) hle.1 (by omega))) λa3=>?_))))));refine Dp (λw' hs=>F4 (rO (k:=0) hs Y)) ?_;rintro⟨a9,v20,v21,rfl,a4,a5,a6⟩;refine tS (λ_ hs=>hs.pk [1,2,3] Y Y) (ty 3 Y Y (FF BS I6 Y (by decide) (by decide) Y Y Y Y Y Y λaa=>?_));refine tS (λ_ hs=>hs.pk [2,3,4] Y Y) (AG [3,1,0,2,4] Y (ty 4 Y Y (GZ BS I6 Y (by decide) Y Y Y Y Y Y (by omega) (by omega) λv26=>?_)));refine tZ Y (Dp (λw' hs=>CZ (k:=0) hs Y) ?_);intro g;refine ty 5 Y Y (AZ (vs:=[v26]) (cs':=[v26]) 2 A3U Y Y Y Y Y (AO g) (AB g BR) (by simp) Y ?_);refine tZ Y (tE (Xb (Xt (Dh ([ov [v26] ((l.take k)++ [a]:(List Choice)),_,bx g2 [v26]]) Y (Cr (ad (k+1) Y (Pe Y (A3 0 Y (show((l.take k)++ [a]:(List Choice))=l.take (k+1) from by exact(A1 c).symm) (λac w' hf hs=>⟨_,?_,k+1,v26,?_,Y,hf.wk Y,hs.pk [0,2] Y Y⟩)))))))))
   ·omega
   ·first|assumption|omega|simp
  ·refine Cx (Xx (Xx (Xe (Xt (Sr (q1 Y (lb 1 H7 Y Y Y Y) (q1 Y (A0y BS Y Y) (q1 Y (A6K Y Y) (AG [1,0] Y (A0z (li Y (GK (C:=λe=>star (bx g2 [v]) (ov [v] (e:(List Choice)))) A6R Y Y Y Y (λw' hs=>zC (by rw[List.length_take];omega) q (λx hx=>(y x (List.mem_of_mem_take hx)).2) hs) λab p=>?_))))))))))));subst p;refine A1A (Dx (Dh ([_,ov [v] (BY (l.take k):(List Choice))]) Y (Sr (q1 Y (lb 0 H7 Y Y Y Y) (Pe Y (Ct (FV Y Y λw' hs=>A7 (k:=1) hs Y ?_)))))));show BY (l.take k)=BY l;exact U0 (by omega)
set_option maxHeartbeats 4000000 in
theorem R2(w u:World)(g:E4 u w)(a8:Value)(l:(List Choice))(ap:Gd.rd u [a8] l)(hn:l.length<=4294967296)(he:∀x∈l,DJ x.Match<=1048576/\x.Times.length<=12):Cy 85 [a8] w (nO u w (BY l:List Choice)):=by
 have cj:=rM ap;refine CX 57 Tryz.func85 Y Y Y (GL w u) (Sr (Pe Y (Dh ([fz u u]) Y (Sr (li Y (MZ (α:=Choice) u BS Y Y Y λv2=>?_))))));refine Pe Y (Dh ([oz u v2 ([]:List Choice),_]) Y (Cq (Sr (Pe Y (Cb (Cl (λm_ ac w'=>∃(a9:World),∃(i:Nat),∃(va:Value),(E4 u a9)/\(i<=l.length)/\m_=l.length-i/\Fits ac 57 [(0,a8),(3,va),(4,(nv i))]/\St w ([oz a9 va (BY (l.take i):List Choice),fz u a9]) w') ?_ ?_))))))
 ·refine DZ 0 Y (show([]:(List Choice))=BY (l.take 0) from by exact gU l) (λac w' hf hs=>⟨_,u,0,v2,(E4.refl _),?_,Y,hf.wk Y,hs⟩)
  ·first|assumption|omega|simp
 ·rintro m_ ac w' ⟨a9,i,va,aa,hil,rfl,hf,hs⟩;refine D.use ?_ hf hs;clear hf hs ac w';have a1:=Gd.rd_sub aa ap;have hfl:(BY (l.take i)).length=i:=by rw[RR,List.length_take];omega
  refine Cq (Sr (P2 Y Y (dl BS Y (AE a1) (Pe Y (Dh ([_,_]) Y (Cd Y (λb5=>?_) (λb5=>?_)))))))
  ·refine Sk (Cq (Cb (Sr (p1 Y (q1 Y (A1N 0 BS Y Y Y) (Pe Y (Sr (P3 Y Y Y ?_))))))));obtain⟨e,m⟩:=sI l i;have hle:=he _ (List.mem_of_getElem? m);obtain⟨ck,at8,ab⟩:=AC (n:=7) rfl a1 m;obtain⟨cl,cm,cn,rfl,ae,af,ag⟩:=BF ab;have bj:=rM ae;have bk:=rM af;have bl:=rM ag;have aq:=AQ ab;refine q1 Y (AJ (l:=l) (j:=i) BS Y Y Y (λw' hs=>(B0 1 g hs Y a1)) Y (lS m)) (q1 Y (SO 1 g Y C3 Y Y at8) (qs Y A6y Y (λw' hs=>(N2 (B0 1 g hs Y ab) hle.1 (by omega))) λbm=>?_));refine Dp (λw' hs=>F4 (rO (k:=0) hs Y)) ?_;rintro⟨v21,v22,v23,rfl,bn,bo,bp⟩;refine li Y (FF BS I6 Y (by decide) (by decide) Y Y Y Y Y Y λco=>?_);refine AG [1,3,0,2] Y (MY g λa0 b a2=>?_);have ar:=Gd.rd_sub b a1;have au:=Gd.rd_sub b ae;have av:=Gd.rd_sub b af;have aw:=Gd.rd_sub b ag;have ax:=Gd.rd_sub b aq;have ay:=Gd.rd_sub b ab;have az:=LN.sub at8 b;refine MM (α:=Choice) 2 b Y ?_;obtain⟨zhu38_,zhu39_,zhu40_,e_,bq,br,bs⟩:=BF a2
   cases e_
   have bt:=AQ a2;refine ML (α:=Choice) a2 (AG [3,0,2,1] Y (li Y (TK (α:=Choice) BS I6 Y (by decide) Y Y Y Y Y Y (by omega) (by omega) λv42=>?_)));refine Pe Y (Dh ([oz a0 v42 ((BY (l.take i))++ [e]:List Choice),fz u a0]) Y (Cq (Cb (Cl (λm_ ac w'=>∃(h:World),∃(k:Nat),∃(vb:Value),(E4 a0 h)/\(k<=i)/\(∀p,k<=p->∀y,(BY (l.take i))[p]?=some y->0<JC y e)/\m_=k+1/\Fits ac 57 [(0,a8),(3,vb),(4,(nv i)),(5,(nv k))]/\St w ([oz h vb (IF (BY (l.take i)) e k:List Choice),fz u h]) w') ?_ ?_))))
   ·refine DZ 0 Y (show((BY (l.take i))++ [e]:(List Choice))=IF (BY (l.take i)) e ((BY (l.take i)).length) from by rw[XU,hfl]) (λac w' hf hs=>⟨_,a0,(BY (l.take i)).length,v42,(E4.refl _),?_,?_,Y,hf.wk Y,hs⟩)
    ·first|assumption|omega|simp
    ·intro p hp y hy;have:=lS hy;omega
   ·rintro m_ ac w' ⟨h,k,vb,c,hki,hlo,rfl,hf,hs⟩;refine D.use ?_ hf hs;clear hf hs ac w';have o:=Gd.rd_sub c ar;have ah:=Gd.rd_sub c au;have ai:=Gd.rd_sub c av;have aj:=Gd.rd_sub c aw;have ak:=Gd.rd_sub c ax;have q:=Gd.rd_sub c ay;have s:=LN.sub az c;have hsl:(IF (BY (l.take i)) e k).length=i+1:=by rw[kJ (by omega)];omega
    refine Cq (Cq ?_);obtain⟨y0,t⟩:=sI (IF (BY (l.take i)) e k) (k-1);have hyl:=he _ (yM m t);refine vO t λbu f=>?_
    obtain⟨cp,cq,cr,rfl,b0,b1,b2⟩:=BF f;have bv:=rM b0;have bw:=rM b1;have bx:=rM b2;have bz:=AQ f;refine A0 mixed [12,13,14] (by kernel_rfl) (tK 12 [0,1,2] Y (EY 25 Y Y (λb3=>?_) (λb3=>?_)))
    ·refine tK 10 [3,4] Y (Tk 5 Y Y (B3 Y Y Y (r:=((k-1:Nat):Int)) (by omega) (by omega)) (Tk 6 Y Y (zJ 0 BS Y Y Y Y Y) (Tk 7 Y Y (lza (n:=7) 0 Y C3 Y Y Y) (tK 5 [8,9] Y (Tk 10 Y Y (AJ (l:=l) (j:=i) BS Y Y Y (λw' hs=>(B0 1 g hs Y o)) Y (lS m)) (Tk 11 Y Y (SO 1 g Y C3 Y Y s) (ty 12 Y Y (cv OQ Y Y Y Y (λw' hs=>(OL (B0 1 g hs Y f) (B0 1 g hs Y q) hyl.2 hle.2)) ?_))))))));refine tZ Y (tW 13 Y Y Y (tW 14 Y Y Y (tE (Xt (Cd Y (λb4=>?_) (λb4=>?_))))))
     ·refine Sk (AH [0,3,4,5] Y (Cb (Sr (P3 Y Y Y (p1 Y (q1 Y (B3 Y Y Y (r:=((k-1:Nat):Int)) (by omega) (by omega)) (q1 Y (zJ 0 BS Y Y Y Y Y) (q1 Y (lza (n:=7) 0 Y C3 Y Y Y) (YQ t f ?_)))))))));obtain⟨cs,al⟩:=sI (IF (BY (l.take i)) e k) k;refine q1 Y (AJ (l:=(IF (BY (l.take i)) e k)) (j:=k) BS Y Y Y (λw' hs=>(hT (i:=0) (j:=1) g hs Y Y)) Y (lS al)) (ML (α:=Choice) f (AG [1,0,2] Y (li Y (soZ (α:=Choice) Y TP Y Y Y Y Y (lS al) ?_))));refine Dx (Dh ([oz h vb ((IF (BY (l.take i)) e k).set k y0:List Choice),_]) Y (Cr (p1 Y (q1 Y (B3 Y Y Y (r:=((k-1:Nat):Int)) (by omega) (by omega)) (p1 Y (De (Xb (Xt (DZ 0 Y (show((IF (BY (l.take i)) e k).set k y0:(List Choice))=IF (BY (l.take i)) e (k-1) from by exact dK (by omega) (by omega) t) (λac w' hf hs=>⟨_,?_,h,k-1,vb,c,?_,?_,Y,hf.wk Y,hs⟩))))))))))
      ·omega
      ·first|assumption|omega|simp
      ·exact tA (p:=λy=>0<JC y e) ⟨by omega,by omega⟩ hlo t (by omega)
     ·refine Cx (Xx (Xx (Xe (Xt (AH [0,3,4,5] Y (Cr (P3 Y Y Y (p1 Y (q1 Y (AJ (l:=l) (j:=i) BS Y Y Y (λw' hs=>(B0 1 g hs Y o)) Y (lS m)) (q1 Y (SO 1 g Y C3 Y Y s) (qs Y A6y Y (λw' hs=>(N2 (B0 1 g hs Y q) hle.1 (by omega))) λc0=>?_)))))))))));refine Dp (λw' hs=>F4 (rO (k:=0) hs Y)) ?_;rintro⟨v69,v70,v71,rfl,c1,c2,c3⟩;refine AG [1,0,2] Y (YQ t f ?_);obtain⟨ct,am⟩:=sI (IF (BY (l.take i)) e k) k;refine q1 Y (AJ (l:=(IF (BY (l.take i)) e k)) (j:=k) BS Y Y Y (λw' hs=>(hT (i:=0) (j:=2) g hs Y Y)) Y (lS am)) (AG [1,2,0] Y (MY g λa3 d a4=>?_));have c4:=Gd.rd_sub d o;have c5:=Gd.rd_sub d ah;have c6:=Gd.rd_sub d ai;have c7:=Gd.rd_sub d aj;have c8:=Gd.rd_sub d ak;have c9:=Gd.rd_sub d q;have ca:=LN.sub s d;refine MM (α:=Choice) 1 d Y ?_;obtain⟨zhu87_,zhu88_,zhu89_,e_,cb,cc,cd⟩:=BF a4
      cases e_
      have ce:=AQ a4;refine ML (α:=Choice) a4 (AG [2,0,1] Y (li Y (soZ (α:=Choice) Y TP Y Y Y Y Y (lS am) ?_)));refine De (Xb (Xt (Dh ([oz a3 vb ((IF (BY (l.take i)) e k).set k e:List Choice),fz u a3]) Y (Cr (p1 Y (ad (i+1) Y (Pe Y (DZ 0 Y (show((IF (BY (l.take i)) e k).set k e:(List Choice))=BY (l.take (i+1)) from by exact kP m hki hlo (by exact .inr ⟨_,t,by omega⟩)) (λac w' hf hs=>⟨_,?_,a3,i+1,vb,(((aa.trans b).trans c).trans d),?_,Y,hf.wk Y,hs⟩)))))))))
      ·omega
      ·first|assumption|omega|simp
    ·refine tK 1 [3,4,5,6,7,8,9,10,11,12,13] Y (tW 14 Y Y Y (tE (Xt (G7 Y (Cx (Xx (Xx (Xe (Xt (AH [0,3,4,5] Y (Cr (P3 Y Y Y (p1 Y (q1 Y (AJ (l:=l) (j:=i) BS Y Y Y (λw' hs=>(B0 1 g hs Y o)) Y (lS m)) ?_))))))))))))));refine q1 Y (SO 1 g Y C3 Y Y s) (qs Y A6y Y (λw' hs=>(N2 (B0 1 g hs Y q) hle.1 (by omega))) λcf=>?_);refine Dp (λw' hs=>F4 (rO (k:=0) hs Y)) ?_;rintro⟨cu,v93,cw,rfl,cg,ch,ci⟩;refine AG [1,0,2] Y (YQ t f ?_);obtain⟨cx,an⟩:=sI (IF (BY (l.take i)) e k) k;refine q1 Y (AJ (l:=(IF (BY (l.take i)) e k)) (j:=k) BS Y Y Y (λw' hs=>(hT (i:=0) (j:=2) g hs Y Y)) Y (lS an)) (AG [1,2,0] Y (MY g λv a z=>?_));have b6:=Gd.rd_sub a o;have b7:=Gd.rd_sub a ah;have b8:=Gd.rd_sub a ai;have b9:=Gd.rd_sub a aj;have ba:=Gd.rd_sub a ak;have bb:=Gd.rd_sub a q;have bc:=LN.sub s a;refine MM (α:=Choice) 1 a Y ?_;obtain⟨zhu110_,zhu111_,zhu112_,e_,bd,be,bf⟩:=BF z
     cases e_
     have bg:=AQ z;refine ML (α:=Choice) z (AG [2,0,1] Y (li Y (soZ (α:=Choice) Y TP Y Y Y Y Y (lS an) ?_)));refine De (Xb (Xt (Dh ([oz v vb ((IF (BY (l.take i)) e k).set k e:List Choice),fz u v]) Y (Cr (p1 Y (ad (i+1) Y (Pe Y (DZ 0 Y (show((IF (BY (l.take i)) e k).set k e:(List Choice))=BY (l.take (i+1)) from by exact kP m hki hlo (by left;omega)) (λac w' hf hs=>⟨_,?_,v,i+1,vb,(((aa.trans b).trans c).trans a),?_,Y,hf.wk Y,hs⟩)))))))))
     ·omega
     ·first|assumption|omega|simp
  ·refine Cx (Xx (Xx (Xe (Xt (Sr (P2 Y Y (Dx (Ct (IJ (α:=Choice) g λa5 a6 a7=>?_)))))))));have bh:=Gd.rd_sub a6 a1;have bi:=rM a7;have ao:Gd.rd a5 [va] (BY l:List Choice):=(show(BY (l.take i):List Choice)=BY l from by exact U0 (by omega))▸a7;exact FV rfl rfl λw' hs=>⟨[va],a5,rfl,H3 (k:=0) hs rfl (aa.trans a6),ao⟩
end Go.Sy.Cmp2
end
