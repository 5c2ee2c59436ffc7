/-
  Contracts of functions of the program, walked (printed by a program of ours).
  Conditions: those that each theorem states.
-/
import Derived.Test.YtmjmglkogcomaaaGreatDoorCmp1
import Derived.Test.YtmjmglkogcomaaaGreatDoorSorts
section
set_option linter.unusedVariables false
set_option maxRecDepth 20000
namespace Go.Sy.Srt2
open Go Go.RowKit Go.Proofs Go.Sy
theorem mixed:Tryz.prog.follows .mixedOrders=true:=by kernel_rfl
open Go.Sy.Bel1 Go.Sy.Ev1 Go.Sy.Ev3 Go.Sy.Fmt1 Go.Sy.Eng1 Go.Sy.Eng2 Go.Sy.Eng3 Go.Sy.Eng4 Go.Sy.Num1 Go.Sy.Num2 Go.Sy.Fal2 Go.Sy.Cho2 Go.Sy.Pdqs Go.Sy.Fal1 Go.Sy.Cmp1 Go.Sy.Sorts
theorem A2m:(Tryz.prog.info? 44).map (·.desc)=some (.slice 54):=by kernel_rfl
theorem A2n:(Tryz.prog.info? 54).map (λi=>(i.size,i.bytes,i.hasPointers))=some (7,112,true):=by kernel_rfl
theorem A2o:Tryz.prog.packed 44=false:=by kernel_rfl
theorem hF:AA Tryz.prog 130=true:=by kernel_rfl
theorem A2p:Tryz.prog.funcs.findIdx? (·.name== "internal/reflectlite" ++ ".Swapper$" ++toString 1)=some 198:=by kernel_rfl
theorem A2q:Tryz.prog.funcs.findIdx? (·.name== "internal/reflectlite" ++ ".Swapper$" ++toString 2)=some 199:=by kernel_rfl
theorem A2r:Tryz.prog.funcs.findIdx? (·.name== "internal/reflectlite" ++ ".Swapper$" ++toString 9)=some 206:=by kernel_rfl
theorem A2s(args:Array Value)(W:World):(callFunc 206 args).run Tryz.prog W=((Extern.ReflectliteSwapper.swap false args).run Tryz.prog W).andThen λv w'=> .ok (.value v) w':=
 run_callFunc_extern Tryz.func206 (by kernel_rfl) (by kernel_rfl) (by kernel_rfl) (by kernel_rfl) args W
theorem zC{w0:World}{a:List Chunk}{w:World}{d:List C3z}{l:Nat}{v:Value}(hlen:d.length<=4294967296)(a7:Tb w0)(a8:∀x∈d,x.q2.length<=12)(a4:St w0 (star (bx l [v]) (ov [v] d)::a) w):
  Calls Tryz.prog 129 [.iface 44 v, .func (.func 130) #[] [Value.pointer (some ⟨l,0,none⟩)].toArray].toArray w (λe w'=>e= .returned (.tuple #[])/\∃m,(m=BY d)/\St w0 (star (bx l [v]) (ov [v] m)::a) w'):=by
 obtain⟨i,hi,s⟩:∃i,Tryz.prog.info? 44=some i/\i.desc= .slice 54:=by
  have h:=A2m;rw[Option.map_eq_some_iff] at h;exact h
 obtain⟨ie,r,u⟩:∃i,Tryz.prog.info? 54=some i/\(i.size,i.bytes,i.hasPointers)=(7,112,true):=by
  have h:=A2n;rw[Option.map_eq_some_iff] at h;exact h
 simp only[Prod.mk.injEq] at u;obtain⟨a9,aa,ab⟩:=u;have a3:∀w,(Extern.Rtype.kind 54).run Tryz.prog w= .ok 25 w:=λw=>by kernel_rfl
 have a6:∀w,(isAgg 54).run Tryz.prog w= .ok true w:=λw=>by kernel_rfl
 obtain⟨p,c,hv⟩:∃p c,v= .slice p d.length c:=AE (α:=C3z) (rO (k:=1) a4.split rfl);subst hv
 let f:Nat->C3z:=A d
 let C:List Nat->Chunk:=λe=>star (bx l [.slice p d.length c]) (ov [.slice p d.length c] (e.map f))
 let lt:Nat->Nat->Bool:=λx y=>yK (f x) (f y)
 have a1:Ordr lt:=nE tJ f;have h0:C (List.range d.length)=star (bx l [.slice p d.length c]) (ov [.slice p d.length c] d):=by show star _ (ov _ ((List.range d.length).map (A d)))=_;rw[yG]
 have hr:(List.range d.length).length=d.length:=List.length_range;have g:∀(a:List Chunk) (w:World) (e:List Nat) (i j:Nat),List.Perm e (List.range d.length)->i<(List.range d.length).length->j<(List.range d.length).length->St w0 (C e::a) w->
   Calls Tryz.prog 130 ([Value.int .i64 (i:Int),Value.int .i64 (j:Int)]++ [Value.pointer (some ⟨l,0,none⟩)]).toArray w (λm w'=>m= .returned (.bool (lt (A e i) (A e j)))/\St w0 (C e::a) w'):=λa w e i j z h1 o t=>by
  have a5:St w0 (bx l [.slice p d.length c]::ov [.slice p d.length c] (e.map f)::a) w:=t.split;have hl:=z.length_eq;have hm:(e.map f).length=d.length:=by rw[List.length_map,hl,hr]
  have a0:∀q,q<(e.map f).length->(A (e.map f) q).q2.length<=12:=λq hq=>by
   rw[List.length_map] at hq;rw[dN hq];have ad:A e q<d.length:=by
    have:A e q∈List.range d.length:=z.mem_iff.1 (List.mem_of_getElem? (OY hq));simpa using this
   exact a8 _ (List.mem_of_getElem? (OY ad))
  have h:=PS w (i:Int) (j:Int) ⟨l,0,none⟩ _ (e.map f) (zK (k:=0) a5 rfl) (rO (k:=1) a5 rfl) (by omega) (by omega) (by omega) (by omega) (a7.ext t.bel) (by simpa using a0 i (by omega)) (by simpa using a0 j (by omega));have e1:A (e.map f) i=f (A e i):=dN (by omega);have e2:A (e.map f) j=f (A e j):=dN (by omega);have e3:yK (A (e.map f) i) (A (e.map f) j)=yK (f (A e i)) (f (A e j)):=by rw[e1,e2]
  exact h.mono λm w' ⟨he,hx⟩=>⟨he.trans (congrArg (λb=>Ending.returned (Value.bool b)) e3),t.ext hx⟩
 have a2:∀(sf:Nat) (sc:List Value),Srt Tryz.prog C lt (List.range d.length) 130 [Value.pointer (some ⟨l,0,none⟩)] sf sc w0->
   (∀w,(Extern.ReflectliteSwapper.swapper "internal/reflectlite" (Extern.ReflectliteValue.valueError "Swapper") #[.iface 44 (.slice p d.length c)]).run Tryz.prog w= .ok (.func (.func sf) #[] sc.toArray) w)->
   Calls Tryz.prog 129 [.iface 44 (.slice p d.length c), .func (.func 130) #[] [Value.pointer (some ⟨l,0,none⟩)].toArray].toArray w (λe w'=>e= .returned (.tuple #[])/\∃m,(m=BY d)/\St w0 (star (bx l [.slice p d.length c]) (ov [.slice p d.length c] m)::a) w'):=λsf sc S ac=>
  (R0 S a1 (by omega) a w (List.range d.length) (List.Perm.refl _) hi s A2o hr.symm ac (by rw[h0];exact a4)).mono λe w' ⟨he,m,⟨h1,o,h4⟩,h3⟩=>by
   refine⟨he,BY d,Y,?_⟩;have h5:m.map f=BY d:=mV (lt:=yK) a1 h1 (by first|exact o|(rw[hr] at o;exact o)) (h4 id (mW d.length));have h6:C m=star (bx l [.slice p d.length c]) (ov [.slice p d.length c] (BY d)):=by show star _ (ov _ (m.map f))=_;rw[h5]
   rw[<-h6];exact h3
 have n:d.length<2->∀(a:List Chunk) (w:World) (e:List Nat) (i j:Nat) (sf:Nat) (sc:List Value),List.Perm e (List.range d.length)->i<(List.range d.length).length->j<(List.range d.length).length->i≠j->St w0 (C e::a) w->
   ∃w',(callFunc sf ([Value.int .i64 (i:Int),Value.int .i64 (j:Int)]++sc).toArray).run Tryz.prog w= .ok (.value (.tuple #[])) w'/\St w0 (C (swp e i j)::a) w':=λh a w e i j sf sc _ h1 o h3 _=>by omega
 by_cases c0:d.length=0
 ·have hk:Lib.swapperK d.length ie 25=1:=by simp[Lib.swapperK,c0]
  refine a2 198 [] ⟨hF,g,λa w e i j z h1 o h3 t=>n (by omega) a w e i j _ _ z h1 o h3 t⟩ λw=>?_;have h:=Lib.run_swapper_slice (P:=Tryz.prog) 44 54 i ie hi s r 25 a3 p d.length c 198 (by rw[hk];exact A2p) w;rw[hk] at h;simpa using h
 ·by_cases c1:d.length=1
  ·have hk:Lib.swapperK d.length ie 25=2:=by simp[Lib.swapperK,c1]
   refine a2 199 [] ⟨hF,g,λa w e i j z h1 o h3 t=>n (by omega) a w e i j _ _ z h1 o h3 t⟩ λw=>?_;have h:=Lib.run_swapper_slice (P:=Tryz.prog) 44 54 i ie hi s r 25 a3 p d.length c 199 (by rw[hk];exact A2q) w;rw[hk] at h;simpa using h
  ·have hk:Lib.swapperK d.length ie 25=9:=by simp[Lib.swapperK,c0,c1,aa,ab]
   refine a2 206 [.slice p d.length c,typeHandle Tryz.prog 54] ⟨hF,g,λa w e i j z h1 o h3 t=>?_⟩ λw=>?_
   ·have hl:=z.length_eq;have h:=tB (i:=i) (j:=j) r a9 a6 A2s (by rw[List.length_map];omega) (by rw[List.length_map];omega) t;show∃w',_/\St w0 (star _ (ov _ ((swp e i j).map f))::a) w';rw[yF (by omega) (by omega)];simpa only[hl,hr] using h
   ·have h:=Lib.run_swapper_slice (P:=Tryz.prog) 44 54 i ie hi s r 25 a3 p d.length c 206 (by rw[hk];exact A2r) w;rw[hk] at h;simpa using h
end Go.Sy.Srt2
end
/-
  Contracts of functions of the program, walked (printed by a program of ours).
  Conditions: those that each theorem states.
-/
section
set_option linter.unusedVariables false
set_option maxRecDepth 20000
namespace Go.Sy.Cmp2
open Go Go.RowKit Go.Proofs Go.Sy
open Go.Sy.Bel1 Go.Sy.Ev1 Go.Sy.Ev3 Go.Sy.Fmt1 Go.Sy.Eng1 Go.Sy.Eng2 Go.Sy.Eng3 Go.Sy.Eng4 Go.Sy.Num1 Go.Sy.Num2 Go.Sy.Fal2 Go.Sy.Cho2 Go.Sy.Pdqs Go.Sy.Fal1 Go.Sy.Cmp1 Go.Sy.Srt2
set_option maxHeartbeats 4000000 in
theorem R1{w:World}{m:Value}{l:(List C3z)}(d:Gd.rd w [m] l)(hn:l.length<=4294967296)(he:∀x∈l,DJ x.v<=1048576/\x.q2.length<=12)(y:Tb w):Cy 91 [m] w (HH w (BY l:(List C3z))):=by
 have a8:=rM d;refine enter 23 Tryz.func91 Y Y Y<|Sr<|Pe Y<|Sr (aL C8k Y λu=>?_);refine Dx<|Dh [bx u [nS]] Y<|Cq<|Sr<|p1 Y<|dl C5c Y (AE d)<|Pe Y<|Cb<|Cl (λm_ t w'=>∃(k:Nat),∃(v:Value),(k<=l.length)/\m_=l.length-k/\Fits t 23 [(3,pv u),(6,m),(7,nv l.length),(8,nv k)]/\St w ([ov [v] (l.take k:(List C3z)),bx u [v]]) w') ?_ ?_
 ·refine CG (α:=C3z)<|A3 0 Y (show([]:(List C3z))=l.take 0 from by rfl) λt w' p a=>⟨_,0,nS,?_,Y,p.wk Y,a⟩
  ·first|assumption|omega|simp
 ·rintro m_ t w' ⟨k,v,hk,rfl,p,a⟩;refine D.use ?_ p a;clear p a t w';have af:(l.take k).length<=k:=by rw[List.length_take];omega
  refine Sr<|Pe Y<|Dh [_,_] Y<|Cq<|Cd Y (λz=>?_) λz=>?_
  ·refine Sk<|Cq<|Cb<|Sr ?_;obtain⟨b,f⟩:=sI l k;have a0:=he _ (List.mem_of_getElem? f);obtain⟨a9,at5,q⟩:=AC (n:=7) rfl d f;obtain⟨u7,u9,o,rfl,r,g,h⟩:=BF q;have a1:=rM r;have a2:=rM g;have a3:=rM h;refine q1 Y (AJ (l:=l) (j:=k) C5c Y Y Y (λw' a=>rA a d) Y<|lS f)<|q1 Y (EX C1g Y Y at5) (aL C2I Y λg17=>?_);refine li Y<|AZ (vs:=[.string b.v.p7,u7,u9,iv b.p3,o,iv b.p9,iv b.p0]) (cs':=[.string b.v.p7,u7,u9,iv b.p3,o,iv b.p9,iv b.p0]) 0 C1m Y Y Y Y Y Y (AB Y<|AB (A2 r)<|AB (A2 g)<|AB Y<|AB (A2 h)<|AB Y<|AB Y BR) (by simp) Y ?_;refine Dx<|Dh [bx g17 [.string b.v.p7,u7,u9,iv b.p3,o,iv b.p9,iv b.p0],_,_] Y<|A0 mixed [4,5] (by kernel_rfl)<|Tk 0 Y Y (lb 2 C7i Y Y Y Y)<|Tk 1 Y Y (C9 0 C1g Y Y Y)<|ty 2 Y Y (crs Y A4H Y Y Y Y (λw' a=>S2 (rA a q) a0.1 (by omega)) λa4=>?_);refine Dp (λw' a=>F4<|rO (k:=0) a Y) ?_;rintro⟨aa,v20,v21,rfl,a5,a6,a7⟩;refine tS (λ_ a=>a.pk [1,2,3] Y Y)<|ty 3 Y Y (FF C5c C2I Y (by decide) (by decide) Y Y Y Y Y Y λab=>?_);refine tS (λ_ a=>a.pk [2,3,4] Y Y)<|AG [3,1,0,2,4] Y<|ty 4 Y Y (GZ C5c C2I Y (by decide) Y Y Y Y Y Y (by omega) (by omega) λc=>?_);refine tZ Y<|Dp (λw' a=>CZ (k:=0) a Y) ?_;intro i;refine ty 5 Y Y<|AZ (vs:=[c]) (cs':=[c]) 2 C8l Y Y Y Y Y (AO i) (AB i BR) (by simp) Y ?_;refine tZ Y<|tE<|Xb<|Xt<|Dh [ov [c] ((l.take k)++ [b]:(List C3z)),_,bx u [c]] Y<|Cr<|ad (k+1) Y<|Pe Y<|A3 0 Y (show((l.take k)++ [b]:(List C3z))=l.take (k+1) from by exact(A1 f).symm) λt w' p a=>⟨_,?_,k+1,c,?_,Y,p.wk Y,a.pk [0,2] Y Y⟩
   ·omega
   ·first|assumption|omega|simp
  ·refine Cx<|Xx<|Xx<|Xe<|Xt<|Sr<|q1 Y (lb 1 C7i Y Y Y Y)<|q1 Y (A0y C5c Y Y)<|q1 Y (A6K Y Y)<|AG [1,0] Y<|A0z<|li Y (GK (C:=λe=>star (bx u [v])<|ov [v] (e:(List C3z))) A3O Y Y Y Y (λw' a=>zC (by rw[List.length_take];omega) y (λx hx=>(he x<|List.mem_of_mem_take hx).2) a) λae s=>?_);subst s;refine A1A<|Dx<|Dh [_,ov [v] (BY (l.take k):(List C3z))] Y<|Sr<|q1 Y (lb 0 C7i Y Y Y Y)<|Pe Y<|Ct (FV Y Y λw' a=>A7 (k:=1) a Y ?_);show BY (l.take k)=BY l;exact U0 (by omega)
set_option maxHeartbeats 4000000 in
theorem R2(w o:World)(c:E4 o w)(a7:Value)(l:(List C3z))(ao:Gd.rd o [a7] l)(hn:l.length<=4294967296)(he:∀x∈l,DJ x.v<=1048576/\x.q2.length<=12):Cy 170 [a7] w (nO o w (BY l:List C3z)):=by
 have cb:=rM ao;refine CX 57 Tryz.func170 Y Y Y (GL w o)<|Sr<|Pe Y<|Dh [fz o o] Y<|Sr<|li Y (MZ (α:=C3z) o C5c Y Y Y λv2=>?_);refine Pe Y<|Dh [oz o v2 ([]:List C3z),_] Y<|Cq<|Sr<|Pe Y<|Cb<|Cl (λm_ u w'=>∃(a8:World),∃(i:Nat),∃(va:Value),(E4 o a8)/\(i<=l.length)/\m_=l.length-i/\Fits u 57 [(0,a7),(3,va),(4,nv i)]/\St w ([oz a8 va (BY (l.take i):List C3z),fz o a8]) w') ?_ ?_
 ·refine DZ 0 Y (show([]:(List C3z))=BY (l.take 0) from by exact gU l) λu w' s a=>⟨_,o,0,v2,E4.refl _,?_,Y,s.wk Y,a⟩
  ·first|assumption|omega|simp
 ·rintro m_ u w' ⟨a8,i,va,a9,ct,rfl,s,a⟩;refine D.use ?_ s a;clear s a u w';have aa:=Gd.rd_sub a9 ao;have bj:(BY (l.take i)).length=i:=by rw[RR,List.length_take];omega
  refine Cq<|Sr<|P2 Y Y<|dl C5c Y (AE aa)<|Pe Y<|Dh [_,_] Y<|Cd Y (λbe=>?_) λbe=>?_
  ·refine Sk<|Cq<|Cb<|Sr<|p1 Y<|q1 Y (A1N 0 C5c Y Y Y)<|Pe Y<|Sr<|P3 Y Y Y ?_;obtain⟨b,h⟩:=sI l i;have ab:=he _ (List.mem_of_getElem? h);obtain⟨cc,b7,ak⟩:=AC (n:=7) rfl aa h;obtain⟨cd,ce,cf,rfl,ap,aq,ar⟩:=BF ak;have bl:=rM ap;have bm:=rM aq;have bn:=rM ar;refine q1 Y (AJ (l:=l) (j:=i) C5c Y Y Y (λw' a=>B0 1 c a Y aa) Y<|lS h)<|q1 Y (SO 1 c Y C1g Y Y b7) (qs Y A0C Y (λw' a=>N2 (B0 1 c a Y ak) ab.1 (by omega)) λbo=>?_);refine Dp (λw' a=>F4<|rO (k:=0) a Y) ?_;rintro⟨v21,cu,cq,rfl,bp,bq,br⟩;refine li Y (FF C5c C2I Y (by decide) (by decide) Y Y Y Y Y Y λcg=>?_);refine AG [1,3,0,2] Y (MY c λt d ae=>?_);have au:=Gd.rd_sub d aa;have av:=Gd.rd_sub d ak;have aw:=LN.sub b7 d;refine MM (α:=C3z) 2 d Y ?_;obtain⟨b9,bd,b8,e_,bs,bt,bu⟩:=BF ae
   cases e_
   refine ML (α:=C3z) ae<|AG [3,0,2,1] Y<|li Y (TK (α:=C3z) C5c C2I Y (by decide) Y Y Y Y Y Y (by omega) (by omega) λb3=>?_);refine Pe Y<|Dh [oz t b3 ((BY<|l.take i)++ [b]:List C3z),fz o t] Y<|Cq<|Cb<|Cl (λm_ u w'=>∃(e:World),∃(k:Nat),∃(vb:Value),(E4 t e)/\(k<=i)/\(∀p,k<=p->∀y,(BY<|l.take i)[p]?=some y->0<JC y b)/\m_=k+1/\Fits u 57 [(0,a7),(3,vb),(4,nv i),(5,nv k)]/\St w ([oz e vb (IF (BY<|l.take i) b k:List C3z),fz o e]) w') ?_ ?_
   ·refine DZ 0 Y (show((BY (l.take i))++ [b]:(List C3z))=IF (BY (l.take i)) b ((BY (l.take i)).length) from by rw[XU,bj]) λu w' s a=>⟨_,t,(BY<|l.take i).length,b3,E4.refl _,?_,?_,Y,s.wk Y,a⟩
    ·first|assumption|omega|simp
    ·intro p hp y hy;have:=lS hy;omega
   ·rintro m_ u w' ⟨e,k,vb,f,b2,an,rfl,s,a⟩;refine D.use ?_ s a;clear s a u w';have z:=Gd.rd_sub f au;have a0:=Gd.rd_sub f av;have a1:=LN.sub aw f;have cp:(IF (BY (l.take i)) b k).length=i+1:=by rw[kJ (by omega)];omega
    refine Cq<|Cq ?_;obtain⟨y0,m⟩:=sI (IF (BY (l.take i)) b k) (k-1);have bk:=he _ (yM h m);refine vO m λbv g=>?_
    obtain⟨ch,ci,cj,rfl,ax,ay,az⟩:=BF g;have bw:=rM ax;have bx:=rM ay;have bz:=rM az;refine A0 mixed [12,13,14] (by kernel_rfl)<|tK 12 [0,1,2] Y<|EY 25 Y Y (λb0=>?_) λb0=>?_
    ·refine tK 10 [3,4] Y<|Tk 5 Y Y (B3 Y Y Y (r:=((k-1:Nat):Int)) (by omega) (by omega))<|Tk 6 Y Y (zJ 0 C5c Y Y Y Y Y)<|Tk 7 Y Y (lza (n:=7) 0 Y C1g Y Y Y)<|tK 5 [8,9] Y<|Tk 10 Y Y (AJ (l:=l) (j:=i) C5c Y Y Y (λw' a=>B0 1 c a Y z) Y<|lS h)<|Tk 11 Y Y (SO 1 c Y C1g Y Y a1)<|ty 12 Y Y<|cv A0B Y Y Y Y (λw' a=>OL (B0 1 c a Y g) (B0 1 c a Y a0) bk.2 ab.2) ?_;refine tZ Y<|tW 13 Y Y Y<|tW 14 Y Y Y<|tE<|Xt<|Cd Y (λb1=>?_) λb1=>?_
     ·refine Sk<|AH [0,3,4,5] Y<|Cb<|Sr<|P3 Y Y Y<|p1 Y<|q1 Y (B3 Y Y Y (r:=((k-1:Nat):Int)) (by omega) (by omega))<|q1 Y (zJ 0 C5c Y Y Y Y Y)<|q1 Y (lza (n:=7) 0 Y C1g Y Y Y)<|YQ m g ?_;obtain⟨ck,af⟩:=sI (IF (BY (l.take i)) b k) k;refine q1 Y (AJ (l:=IF (BY<|l.take i) b k) (j:=k) C5c Y Y Y (λw' a=>hT (i:=0) (j:=1) c a Y Y) Y<|lS af)<|ML (α:=C3z) g<|AG [1,0,2] Y<|li Y<|soZ (α:=C3z) Y C1m Y Y Y Y Y (lS af) ?_;refine Dx<|Dh [oz e vb ((IF (BY<|l.take i) b k).set k y0:List C3z),_] Y<|Cr<|p1 Y<|q1 Y (B3 Y Y Y (r:=((k-1:Nat):Int)) (by omega) (by omega))<|p1 Y<|De<|Xb<|Xt<|DZ 0 Y (show((IF (BY (l.take i)) b k).set k y0:(List C3z))=IF (BY (l.take i)) b (k-1) from by exact dK (by omega) (by omega) m) λu w' s a=>⟨_,?_,e,k-1,vb,f,?_,?_,Y,s.wk Y,a⟩
      ·omega
      ·first|assumption|omega|simp
      ·exact tA (p:=λy=>0<JC y b) ⟨by omega,by omega⟩ an m (by omega)
     ·refine Cx<|Xx<|Xx<|Xe<|Xt<|AH [0,3,4,5] Y<|Cr<|P3 Y Y Y<|p1 Y<|q1 Y (AJ (l:=l) (j:=i) C5c Y Y Y (λw' a=>B0 1 c a Y z) Y<|lS h)<|q1 Y (SO 1 c Y C1g Y Y a1) (qs Y A0C Y (λw' a=>N2 (B0 1 c a Y a0) ab.1 (by omega)) λc0=>?_);refine Dp (λw' a=>F4<|rO (k:=0) a Y) ?_;rintro⟨cs,v70,cr,rfl,c1,c2,c3⟩;refine AG [1,0,2] Y<|YQ m g ?_;obtain⟨cl,ag⟩:=sI (IF (BY (l.take i)) b k) k;refine q1 Y (AJ (l:=IF (BY<|l.take i) b k) (j:=k) C5c Y Y Y (λw' a=>hT (i:=0) (j:=2) c a Y Y) Y<|lS ag)<|AG [1,2,0] Y (MY c λa2 ah ai=>?_);refine MM (α:=C3z) 1 ah Y ?_;obtain⟨bb,bc,ba,e_,c4,c5,c6⟩:=BF ai
      cases e_
      refine ML (α:=C3z) ai<|AG [2,0,1] Y<|li Y<|soZ (α:=C3z) Y C1m Y Y Y Y Y (lS ag) ?_;refine De<|Xb<|Xt<|Dh [oz a2 vb ((IF (BY<|l.take i) b k).set k b:List C3z),fz o a2] Y<|Cr<|p1 Y<|ad (i+1) Y<|Pe Y<|DZ 0 Y (show((IF (BY (l.take i)) b k).set k b:(List C3z))=BY (l.take (i+1)) from by exact kP h b2 an (by exact .inr ⟨_,m,by omega⟩)) λu w' s a=>⟨_,?_,a2,i+1,vb,(((a9.trans d).trans f).trans ah),?_,Y,s.wk Y,a⟩
      ·omega
      ·first|assumption|omega|simp
    ·refine tK 1 [3,4,5,6,7,8,9,10,11,12,13] Y<|tW 14 Y Y Y<|tE<|Xt<|G7 Y<|Cx<|Xx<|Xx<|Xe<|Xt<|AH [0,3,4,5] Y<|Cr<|P3 Y Y Y<|p1 Y<|q1 Y (AJ (l:=l) (j:=i) C5c Y Y Y (λw' a=>B0 1 c a Y z) Y<|lS h) ?_;refine q1 Y (SO 1 c Y C1g Y Y a1) (qs Y A0C Y (λw' a=>N2 (B0 1 c a Y a0) ab.1 (by omega)) λc7=>?_);refine Dp (λw' a=>F4<|rO (k:=0) a Y) ?_;rintro⟨cm,cw,cn,rfl,c8,c9,ca⟩;refine AG [1,0,2] Y<|YQ m g ?_;obtain⟨co,aj⟩:=sI (IF (BY (l.take i)) b k) k;refine q1 Y (AJ (l:=IF (BY<|l.take i) b k) (j:=k) C5c Y Y Y (λw' a=>hT (i:=0) (j:=2) c a Y Y) Y<|lS aj)<|AG [1,2,0] Y (MY c λq a3 a4=>?_);refine MM (α:=C3z) 1 a3 Y ?_;obtain⟨b5,b6,b4,e_,bf,bg,bh⟩:=BF a4
     cases e_
     refine ML (α:=C3z) a4<|AG [2,0,1] Y<|li Y<|soZ (α:=C3z) Y C1m Y Y Y Y Y (lS aj) ?_;refine De<|Xb<|Xt<|Dh [oz q vb ((IF (BY<|l.take i) b k).set k b:List C3z),fz o q] Y<|Cr<|p1 Y<|ad (i+1) Y<|Pe Y<|DZ 0 Y (show((IF (BY (l.take i)) b k).set k b:(List C3z))=BY (l.take (i+1)) from by exact kP h b2 an (by left;omega)) λu w' s a=>⟨_,?_,q,i+1,vb,(((a9.trans d).trans f).trans a3),?_,Y,s.wk Y,a⟩
     ·omega
     ·first|assumption|omega|simp
  ·refine Cx<|Xx<|Xx<|Xe<|Xt<|Sr<|PE 2 Y<|Ct (IJ (α:=C3z) c λa5 al a6=>?_);have bi:=rM a6;have am:Gd.rd a5 [va] (BY l:List C3z):=(show(BY (l.take i):List C3z)=BY l from by exact U0 (by omega))▸a6;exact FV rfl rfl λw' a=>⟨[va],a5,rfl,H3 (k:=0) a rfl (a9.trans al),am⟩
end Go.Sy.Cmp2
end
