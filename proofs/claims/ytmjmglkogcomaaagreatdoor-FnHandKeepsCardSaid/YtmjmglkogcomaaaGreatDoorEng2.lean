/-
  Contracts of functions of the program, walked (printed by a program of ours).
  Conditions: those that each theorem states.
-/
import Derived.Test.YtmjmglkogcomaaaGreatDoorEng1
import Derived.Test.YtmjmglkogcomaaaGreatDoorShelf
set_option linter.unusedVariables false
set_option maxRecDepth 20000
namespace Go.Sy.Eng2
open Go Go.RowKit Go.Proofs Go.Sy
open Go.Sy.Bel1 Go.Sy.Ev1 Go.Sy.Eng1
theorem UB(w0:World)(Hs:List Chunk)(w:World)(f:Value)(l:List ByteArray)(hsz:l.length<=4294967296)(r:St w0 (ov [f] (l:List ByteArray)::Hs) w):Cy 156 [f] w (λe w'=>e= .returned (.tuple #[])/\St w0 (ov [f] (G3 l:List ByteArray)::Hs) w'):=by
 obtain⟨fp,v,hn,hb,u⟩:=r.set (k:=0) rfl
 rcases owF v with ⟨h1,h,_⟩|⟨g,cap,cur,h1,h,h3,h4,h5,h6,h8⟩
 ·subst h1;subst h;refine(Tryz.sort_Strings_none none 0 w).mono λe w' ⟨he,hw⟩=>⟨he,?_⟩
  subst hw;rw[show G3 []=[] by simp[G3]];exact r
 ·subst h6;subst h1;have hH:Go.Sort.Holds Go.Proofs.encStr w g 0 (l.map (·.data.toList)).toArray:=λj hj=>by
   have s:j<l.length:=by simpa using hj
   obtain⟨x,p⟩:=sL s;refine⟨?_,by simp[World.frozen?,h]⟩;rw[Nat.zero_add,cell_of_heap h,h8 j x p];rw[getElem!_pos _ j hj];obtain⟨b,c⟩:=List.getElem?_eq_some_iff.1 p;simp only[List.getElem_toArray,List.getElem_map,c];rfl
  have d:((l.map (·.data.toList)).length)=l.length:=by simp
  have a:=Tryz.sort_Strings g 0 cap (l.map (·.data.toList)) w hH (lt_of_heap h) (by rw[d];omega);rw[d] at a;refine a.mono λe w' ⟨he,n,os,hw⟩=>⟨he,?_⟩
  subst hw;have o:(Go.Sort.grow (Go.Sort.putRow Go.Proofs.encStr (Go.Sort.ahead w n) g 0 ((l.map (·.data.toList)).mergeSort λx y=>decide (x<=y)).toArray) os).heap[g]?=some (.cells (Go.Sort.putCells Go.Proofs.encStr 0 ((l.map (·.data.toList)).mergeSort λx y=>decide (x<=y)).toArray cur) (Tid.id ByteArray) (0,0)):=by
   rw[Go.Sort.heap_grow_old _ _ (by simp[Go.Sort.ahead];exact lt_of_heap h)];simp[Go.Sort.putRow,Go.Sort.mapBlock,Go.Sort.ahead,Array.getElem?_modify,h,Go.Sort.onCells]
  refine u _ (ov [.slice (some ⟨g,0,none⟩) l.length cap]<|G3 l) [g] ⟨Y,Y,Y,by simp[Go.Sort.ahead],λk hk a0=>?_⟩ ?_ (by simp) λq hq=>⟨.inl hq,?_⟩
  ·have z:g≠k:=λe=>a0 (by simp[e])
   rw[Go.Sort.heap_grow_old _ _ (by simpa [Go.Sort.ahead] using hk)];simp[Go.Sort.putRow,Go.Sort.mapBlock,Go.Sort.ahead,Array.getElem?_modify,z]
  ·have hl:=T6 l;show Gd.ow _ [.slice (some ⟨g,0,none⟩) l.length cap] (G3 l) [g];rw[<-hl];refine YK o (by rw[hl];exact h3) h4 (by simp[Go.Sort.putCells,h5]) λi x p=>?_;have hi:=lS p;have m:i<((l.map (·.data.toList)).mergeSort λx y=>decide (x<=y)).length:=by simpa [G3] using hi
   simp only[G3,List.getElem?_map,List.getElem?_eq_getElem m,Option.map_some,Option.some.injEq] at p;subst p;have t:i<cur.size:=by rw[h5];omega
   simp only[Go.Sort.putCells,Array.getElem?_mapIdx,Array.getElem?_eq_getElem t,Option.map_some,Option.some.injEq];rw[if_pos ⟨Nat.zero_le _,by simpa using m⟩,getElem!_pos _ _ (by simpa using m)];simp;rfl
  ·have:=hb q hq;simp only[Go.Sort.size_grow,Go.Sort.size_putRow];show q<w.heap.size+os.size;omega
theorem IQ{w:World}{f:Value}{l:(List ByteArray)}(g:Gd.rd w [f] l)(q:l.length<=4294967296):Cy 122 [f] w (HH w (AD l:List ByteArray)):=by
 have s:=rM g;refine enter 35 Tryz.func122 Y Y Y<|Sr<|Pe Y<|Sr<|p1 Y<|CG (α:=ByteArray)<|li Y (PW (α:=ByteArray) (ys:=l) HJ QZ Y Y Y Y Y Y (λw' a=>rA a g) (by simp;omega) (by simp;omega) λv2=>?_);refine Pe Y<|Dh [ov [v2] (([])++l:(List ByteArray))] Y<|Sr<|p1 Y<|li Y<|cm A3T Y Y Y Y (λw' a=>UB _ _ w' v2 (([])++l) ‹_› a) ?_;refine Dx<|Dh [ov [v2] (G3 (([])++l):(List ByteArray))] Y<|Cq ?_;have t:(G3 ([]++l)).length=l.length:=T6 l;refine Cr<|Pe Y<|Cq<|Sr<|p1 Y<|q1 Y (B7 0 HJ Y Y Y)<|Pe Y<|Cb<|Cl (λp d w'=>∃(k:Nat),∃(v:Value),(k<=l.length)/\p=l.length-k/\Fits d 35 [(3,v2),(4,v),(11,v2),(12,nv ((G3 (([])++l)).length)),(13,nv k)]/\St w ([ov [v] (E2 (G3 ([]++l)) k:(List ByteArray)),ov [v2] (G3 (([])++l):(List ByteArray))]) w') ?_ ?_
 ·refine CG (α:=ByteArray)<|A3 0 Y (show([]:(List ByteArray))=E2 (G3 ([]++l)) 0 from by rfl) λd w' c a=>⟨_,0,nS,?_,Y,c.wk Y,a⟩
  ·omega
 ·rintro p d w' ⟨k,v,hk,rfl,c,a⟩;refine D.use ?_ c a;clear c a d w';have u:=W6 (G3 ([]++l)) k;refine Sr<|Pe Y<|Dh [_,_] Y<|Cq<|Cd Y (λi=>?_) λi=>?_
  ·refine Sk<|Cq<|Cb<|Sr<|p1 Y ?_;obtain⟨e,b⟩:=sI (G3 (([])++l)) k;refine q1 Y (AJ (l:=G3 (([])++l)) (j:=k) HJ Y Y Y (λw' a=>rO (k:=1) a Y) Y<|lS b)<|q1 Y (lo (α:=ByteArray) 1 BK Y Y Y b)<|PE 2 Y<|Sr<|P3 Y Y Y<|oV 20 Y Y (λm=>?_) λm=>?_
   ·refine PE 8 Y<|AH [3,4,6,11,12,13,28] Y<|GF Y<|Cr<|P2 Y Y<|li Y (FF HJ QZ Y (by decide) (by decide) Y Y Y Y Y Y λy=>?_);refine OI e<|AG [2,0,1,3] Y<|li Y (GZ HJ QZ Y (by decide) Y Y Y Y Y Y (by omega) (by omega) λo=>?_);refine p1 Y<|De<|Xb<|Xt<|Dh [ov [o] ((E2 (G3 ([]++l)) k)++ [e]:(List ByteArray)),_] Y<|Cr<|ad (k+1) Y<|Pe Y<|A3 0 Y (show((E2 (G3 ([]++l)) k)++ [e]:(List ByteArray))=E2 (G3 ([]++l)) (k+1) from by exact Y9 b (.inl (by omega))) λd w' c a=>⟨_,?_,k+1,o,?_,Y,c.wk Y,a⟩
    ·omega
    ·omega
   ·refine P2 Y Y<|q1 Y (B3 Y Y Y (r:=((k-1:Nat):Int)) (by omega) (by omega)) ?_;obtain⟨x,h⟩:=sI (G3 (([])++l)) (k-1);refine q1 Y (AJ (l:=G3 (([])++l)) (j:=(k-1)) HJ Y Y Y (λw' a=>rO (k:=1) a Y) Y<|lS h)<|q1 Y (lo (α:=ByteArray) 1 BK Y Y Y h)<|p1 Y<|q1 Y (E5 Y Y Y)<|Pe Y<|AH [3,4,6,11,12,13,28] Y<|R8 Y (λn=>?_) λn=>?_
    ·refine Cr<|P2 Y Y<|li Y (FF HJ QZ Y (by decide) (by decide) Y Y Y Y Y Y λz=>?_);refine OI e<|AG [2,0,1,3] Y<|li Y (GZ HJ QZ Y (by decide) Y Y Y Y Y Y (by omega) (by omega) λv9=>?_);refine p1 Y<|De<|Xb<|Xt<|Dh [ov [v9] ((E2 (G3 ([]++l)) k)++ [e]:(List ByteArray)),_] Y<|Cr<|ad (k+1) Y<|Pe Y<|A3 0 Y (show((E2 (G3 ([]++l)) k)++ [e]:(List ByteArray))=E2 (G3 ([]++l)) (k+1) from by exact Y9 b (.inr (by simp_all))) λd w' c a=>⟨_,?_,k+1,v9,?_,Y,c.wk Y,a⟩
     ·omega
     ·omega
    ·refine Ck<|Xb<|Xt<|Cr<|ad (k+1) Y<|Pe Y<|A3 0 Y (show(E2 (G3 ([]++l)) k:(List ByteArray))=E2 (G3 ([]++l)) (k+1) from by exact jH b (by omega) (by simp_all)) λd w' c a=>⟨_,?_,k+1,v,?_,Y,c.wk Y,a⟩
     ·omega
     ·omega
  ·refine Cx<|Xx<|Xx<|Xe<|Xt<|Sr<|PE 2 Y<|Ct (FV Y Y λw' a=>A7 (k:=0) a Y ?_);show E2 (G3 ([]++l)) k=AD l;exact mD (l:=l) (by omega) (by omega)
theorem KA{w:World}{e:Value}{l:(List ByteArray)}(b:Gd.rd w [e] l)(r:l.length<=4294967296):Cy 120 [e] w (HH w (AM l:List ByteArray)):=by
 have s:=rM b;refine enter 20 Tryz.func120 Y Y Y<|Sr<|Pe Y<|Sr<|Pe Y<|Cq<|Sr<|p1 Y<|dl HJ Y (AE b)<|Pe Y<|Cb<|Cl (λq f w'=>∃(k:Nat),∃(v:Value),(k<=l.length)/\q=l.length-k/\Fits f 20 [(3,v),(6,e),(7,nv l.length),(8,nv k)]/\St w ([ov [v] (AM (l.take k):(List ByteArray))]) w') ?_ ?_
 ·refine CG (α:=ByteArray)<|A3 0 Y (show([]:(List ByteArray))=AM (l.take 0) from by rfl) λf w' d a=>⟨_,0,nS,?_,Y,d.wk Y,a⟩
  ·omega
 ·rintro q f w' ⟨k,v,z,rfl,d,a⟩;refine D.use ?_ d a;clear d a f w';have x:=C1 (l.take k);have u:(l.take k).length<=k:=by rw[List.length_take];omega
  refine Sr<|Pe Y<|Dh [_] Y<|Cq<|Cd Y (λh=>?_) λh=>?_
  ·refine Sk<|Cq<|Cb<|Sr ?_;obtain⟨g,c⟩:=sI l k;obtain⟨i,o,m⟩:=AC (n:=1) rfl b c;obtain rfl:i=[.string g]:=m;refine q1 Y (AJ (l:=l) (j:=k) HJ Y Y Y (λw' a=>rA a b) Y<|lS c)<|q1 Y (HI BK Y Y o Y)<|Pe Y<|Sr<|p1 Y<|qv A3Q Y (λw' a=>J9)<|Dx<|Ci _ Y (λt=>?_) λt=>?_
   ·refine Cr<|P2 Y Y<|li Y (FF HJ QZ Y (by decide) (by decide) Y Y Y Y Y Y λy=>?_);refine OI g<|AG [2,0,1] Y<|li Y (GZ HJ QZ Y (by decide) Y Y Y Y Y Y (by omega) (by omega) λp=>?_);refine p1 Y<|De<|Xb<|Xt<|Dh [ov [p] ((AM<|l.take k)++ [g]:(List ByteArray))] Y<|Cr<|ad (k+1) Y<|Pe Y<|A3 0 Y (show((AM (l.take k))++ [g]:(List ByteArray))=AM (l.take (k+1)) from by exact jI c (by simp_all)) λf w' d a=>⟨_,?_,k+1,p,?_,Y,d.wk Y,a⟩
    ·omega
    ·omega
   ·refine Ck<|Xb<|Xt<|Cr<|ad (k+1) Y<|Pe Y<|A3 0 Y (show(AM (l.take k):(List ByteArray))=AM (l.take (k+1)) from by exact jJ c (by simp_all)) λf w' d a=>⟨_,?_,k+1,v,?_,Y,d.wk Y,a⟩
    ·omega
    ·omega
  ·refine Cx<|Xx<|Xx<|Xe<|Xt<|Sr<|PE 2 Y<|Ct (FV Y Y λw' a=>A7 (k:=0) a Y ?_);show AM (l.take k)=AM l;rw[List.take_of_length_le (by omega)]
theorem I8{w:World}{g:List Value}{p:C1H}(o:Gd.rd w g p)(a0:p.a.length<=1048576)(ho:IP p):Cy 185 [(.agg g.toArray)] w (HH w (AD (AM p.a):List ByteArray)):=by
 obtain⟨y,rfl,d⟩:=B8 o;have a1:=rM d;refine enter 27 Tryz.func185 Y Y Y<|Sr (bX Y λx=>?_);refine Pe Y<|Dh [bx x [.string p.p5,y]] Y<|Sr<|li Y (FL (α:=ByteArray) HJ Y Y Y λv5=>?_);refine Pe Y<|Dh [ov [v5] ([]:(List ByteArray)),_] Y<|Cq<|Sr<|Pe Y<|Cb<|Cl (λz f w'=>∃(k:Nat),∃(v:Value),(k<=p.a.length)/\z=p.a.length-k/\Fits f 27 [(1,pv x),(3,v),(4,nv k)]/\St w ([ov [v] (AD (AM<|p.a.take k):(List ByteArray)),bx x [.string p.p5,y]]) w') ?_ ?_
 ·refine A3 0 Y (show([]:(List ByteArray))=AD (AM (p.a.take 0)) from by rfl) λf w' e b=>⟨_,0,v5,?_,Y,e.wk Y,b⟩
  ·omega
 ·rintro z f w' ⟨k,v,hk,rfl,e,b⟩;refine D.use ?_ e b;clear e b f w';have a2:=BO (AM (p.a.take k));have a4:=C1 (p.a.take k);have a3:(p.a.take k).length<=k:=by rw[List.length_take];omega
  refine Cq<|Sr<|p1 Y<|fl 1 B6C VN Y<|dl HJ Y (AE d)<|Pe Y<|Dh [_,_] Y<|Cd Y (λq=>?_) λq=>?_
  ·refine Sk<|Cq<|Cb<|Sr<|fl 1 B6C VN Y<|p1 Y ?_;obtain⟨m,c⟩:=sI p.a k;have r:m.size<=9223372036854775807:=ho.2 _ (List.mem_of_getElem? c);obtain⟨s,i,t⟩:=AC (n:=1) rfl d c;obtain rfl:s=[.string m]:=t;refine q1 Y (AJ (l:=p.a) (j:=k) HJ Y Y Y (λw' b=>rA b d) Y<|lS c)<|q1 Y (HI BK Y Y i Y)<|qv pP Y (λw' b=>GQ r)<|Dx<|Ci _ Y (λu=>?_) λu=>?_
   ·refine Cr<|p1 Y<|fl 1 B6C VN Y<|p1 Y<|q1 Y (AJ (l:=p.a) (j:=k) HJ Y Y Y (λw' b=>rA b d) Y<|lS c)<|q1 Y (HI BK Y Y i Y) (ql qD Y (λw' b=>HR (rO (k:=0) b Y) (by omega)) λh=>?_);refine p1 Y<|De<|Xb<|Xt<|AH [1,3,4] Y<|Dh [ov [h] (CE (AD<|AM<|p.a.take k) m:(List ByteArray)),_,_] Y<|Cr<|p1 Y<|ad (k+1) Y<|Pe Y<|A3 0 Y (show(CE (AD (AM (p.a.take k))) m:(List ByteArray))=AD (AM (p.a.take (k+1))) from by exact wM c (by simp_all)) λf w' e b=>⟨_,?_,k+1,h,?_,Y,e.wk Y,b.pk [0,2] Y Y⟩
    ·omega
    ·omega
   ·refine Ck<|Xb<|Xt<|Cr<|p1 Y<|ad (k+1) Y<|Pe Y<|A3 0 Y (show(AD (AM (p.a.take k)):(List ByteArray))=AD (AM (p.a.take (k+1))) from by exact wN c (by simp_all)) λf w' e b=>⟨_,?_,k+1,v,?_,Y,e.wk Y,b⟩
    ·omega
    ·omega
  ·refine Cx<|Xx<|Xx<|Xe<|Xt<|Sr<|PE 2 Y<|Ct (FV Y Y λw' b=>A7 (k:=0) b Y ?_);show AD (AM (p.a.take k))=AD (AM p.a);rw[List.take_of_length_le (by omega)]
theorem KB{w:World}{a:Value}{l:(List ByteArray)}(b:Gd.rd w [a] l)(d:l.length<=4294967296):Cy 85 [a] w (HH w (l:List ByteArray)):=by
 have e:=rM b;refine enter 5 Tryz.func85 Y Y Y<|Sr<|Pe Y<|Sr<|p1 Y<|CG (α:=ByteArray)<|li Y (PW (α:=ByteArray) (ys:=l) HJ QZ Y Y Y Y Y Y (λw' c=>rA c b) (by simp;omega) (by simp;omega) λv2=>?_);refine Pe Y<|Ct (FV Y Y λw' c=>A7 (k:=0) c Y ?_);show([])++l=l;simp
theorem ZE{w:World}{a:Value}{l:(List ByteArray)}(b:Gd.rd w [a] l)(d:l.length<=4294967296):Cy 86 [a] w (HH w (l:List ByteArray)):=by
 have e:=rM b;refine enter 6 Tryz.func86 Y Y Y<|Sr<|Pe Y<|Sr<|li Y (FL (α:=ByteArray) HJ Y Y Y λv2=>?_);refine p1 Y<|li Y (PW (α:=ByteArray) (ys:=l) HJ QZ Y Y Y Y Y Y (λw' c=>rA c b) (by simp;omega) (by simp;omega) λv3=>?_);refine Pe Y<|Ct (FV Y Y λw' c=>A7 (k:=0) c Y ?_);show([])++l=l;simp
theorem ZF{w:World}{e:List Value}{x:C1L}(h:Gd.rd w e x)(r:BW x<=1048576):Cy 194 [(.agg e.toArray)] w (HH w (x.p2.a++ [x.t,x.p6]:List ByteArray)):=by
 obtain⟨j,rfl,c⟩:=A8 h;have m:=rM c;have o:=BX x;have p:=EF x;refine enter 13 Tryz.func194 Y Y Y<|Sr (bX Y λl=>?_);refine Pe Y<|Dh [bx l [iv x.s,.string x.p2.p5,j,.string x.t,.string x.p6]] Y<|Cq<|A1K (λg w'=>∃(f:Value),Fits g 13 [(2,f)]/\St w ([ov [f] (x.p2.a++([x.t,x.p6]):(List ByteArray)),bx l [iv x.s,.string x.p2.p5,j,.string x.t,.string x.p6]]) w') ?_ ?_
 ·refine A0 mixed [9,10] (by kernel_rfl)<|Tk 0 Y Y (Db C4h Y Y (q:=1) Y)<|Tk 1 Y Y (Db B6C Y Y (q:=2) Y)<|Tk 2 Y Y (lb 0 VN Y Y Y Y)<|Tk 4 Y Y (Db C5X Y Y (q:=3) Y)<|Tk 5 Y Y (lb 0 BK Y Y Y Y)<|Tk 6 Y Y (Db C5S Y Y (q:=4) Y)<|Tk 7 Y Y (lb 0 BK Y Y Y Y)<|tyN [3,8] Y (by kernel_rfl) ⟨⟨_,Y,Y,?_⟩,⟨_,Y,Y,?_⟩,trivial⟩
  ·refine id (YJ A6S Y Y Y Y (λw' b=>KB (rA b c) (by omega)) λu=>?_);refine tS (λ_ b=>b.pk [1] Y Y)<|ty 8 Y Y (oO (α:=ByteArray) (xs:=[.tmp 8, .tmp 10]) (ys:=[x.t,x.p6]) HJ QZ Y Y Y Y (by decide) (by decide) Y Y λv=>?_);refine tS (λ_ b=>b.pk [2] Y Y)<|AG [1,0,2] Y<|ty 9 Y Y (PW (α:=ByteArray) (ys:=([x.t,x.p6])) HJ QZ Y Y Y Y Y Y (λw' b=>rO (k:=1) b Y) (by simp;omega) (by simp;omega) λf=>?_);refine tZ Y<|tW 10 Y Y Y<|tE<|Xt λg w' d b=>⟨f,d.wk Y,b.pk [0,2] Y Y⟩
  ·refine id (oO (α:=ByteArray) (xs:=[.tmp 8, .tmp 10]) (ys:=[x.t,x.p6]) HJ QZ Y Y Y Y (by decide) (by decide) Y Y λv9=>?_);refine tS (λ_ b=>b.pk [1] Y Y)<|ty 3 Y Y (YJ A6S Y Y Y Y (λw' b=>KB (rA b c) (by omega)) λn=>?_);refine tS (λ_ b=>b.pk [2] Y Y)<|ty 9 Y Y (PW (α:=ByteArray) (ys:=([x.t,x.p6])) HJ QZ Y Y Y Y Y Y (λw' b=>rO (k:=1) b Y) (by simp;omega) (by simp;omega) λi=>?_);refine tZ Y<|tW 10 Y Y Y<|tE<|Xt λg w' d b=>⟨i,d.wk Y,b.pk [0,2] Y Y⟩
 rintro g w' ⟨f,d,b⟩;refine D.use ?_ d b;clear d b g w';refine Xt<|Ct (FV Y Y λw' b=>A7 (k:=0) b Y ?_);show x.p2.a++([x.t,x.p6])=x.p2.a++ [x.t,x.p6];rfl
theorem LC{w:World}{c:List Value}{x:C1L}(d:Gd.rd w c x)(n:BW x<=1048576):Cy 154 [(.agg c.toArray)] w (HH w (AD (A6 x):List ByteArray)):=by
 obtain⟨f,rfl,e⟩:=A8 d;have g:=rM e;have h:=BX x;have i:=EF x;have m:(x.p2.a++ [x.t,x.p6]).length=x.p2.a.length+2:=by simp
 have j:=C1 (x.p2.a++ [x.t,x.p6]);refine enter 7 Tryz.func154 Y Y Y<|Sr (bX Y λl=>?_);refine Pe Y<|Dh [bx l [iv x.s,.string x.p2.p5,f,.string x.t,.string x.p6]] Y<|Sr<|q1 Y (C9 0 C4n Y Y Y) (ql qL Y (λw' b=>ZF (rA b d) ‹_›) λo=>?_);refine ql B3V Y (λw' b=>KA (rO (k:=0) b Y) (by omega)) λp=>?_
 refine ql A3y Y (λw' b=>IQ (rO (k:=0) b Y) (by omega)) λq=>?_
 refine Pe Y<|Ct (FV Y Y λw' b=>A7 (k:=0) b Y ?_);show AD (AM (x.p2.a++ [x.t,x.p6]))=AD (A6 x);rfl
theorem IY{w:World}{c:List Value}{x:C1L}(d:Gd.rd w c x)(hx:BW x<=1048576)(e:LB x):Cy 180 [(.agg c.toArray)] w (HH w (AD (A6 x):List ByteArray)):=by
 obtain⟨i,rfl,f⟩:=A8 d;have j:=rM f;have g:=AK d;have u:=BX x;have v:=EF x;have r:=BO (AM x.p2.a);have a0:=C1 x.p2.a;have a1:=QE (AD (AM x.p2.a)) x.t;refine enter 22 Tryz.func180 Y Y Y<|Sr (bX Y λy=>?_);refine Pe Y<|Dh [bx y [iv x.s,.string x.p2.p5,i,.string x.t,.string x.p6]] Y<|Sr<|q1 Y (Db C4h Y Y (q:=1) Y)<|q1 Y (H2 (es:=[.string x.p2.p5,i]) 0 B8m Y Y Y Y) (ql zN Y (λw' b=>I8 (rA b g) (by omega) e.2.1) λl=>?_);refine Pe Y<|Dh [ov [l] (AD (AM x.p2.a):(List ByteArray)),_] Y<|Cq<|Sr<|fl 1 C5X BK Y<|qv pP Y (λw' b=>GQ (by exact e.2.2.1))<|Dx<|Ci _ Y (λm=>?_) λm=>?_
 ·refine Cr<|p1 Y<|fl 1 C5X BK Y (ql qD Y (λw' b=>HR (rO (k:=0) b Y) (by omega)) λn=>?_);refine Pe Y<|Dh [ov [n] (CE (AD<|AM x.p2.a) x.t:(List ByteArray)),_,_] Y<|Cq<|Sr<|fl 2 C5S BK Y<|qv pP Y (λw' b=>GQ (by exact e.2.2.2))<|Dx<|Ci _ Y (λo=>?_) λo=>?_
  ·refine Cr<|p1 Y<|fl 2 C5S BK Y (ql qD Y (λw' b=>HR (rO (k:=0) b Y) (by omega)) λp=>?_);refine Pe Y<|Sr<|PE 2 Y<|Ct (FV Y Y λw' b=>A7 (k:=0) b Y ?_);show CE (CE (AD (AM x.p2.a)) x.t) x.p6=AD (A6 x);exact A7T ‹_› ‹_›
  ·refine Sk<|Sr<|PE 2 Y<|Ct (FV Y Y λw' b=>A7 (k:=0) b Y ?_);show CE (AD (AM x.p2.a)) x.t=AD (A6 x);exact A7R ‹_› ‹_›
 ·refine Sk<|Cq<|Sr<|fl 1 C5S BK Y<|qv pP Y (λw' b=>GQ (by exact e.2.2.2))<|Dx<|Ci _ Y (λh=>?_) λh=>?_
  ·refine Cr<|p1 Y<|fl 1 C5S BK Y (ql qD Y (λw' b=>HR (rO (k:=0) b Y) (by omega)) λz=>?_);refine Pe Y<|Sr<|PE 2 Y<|Ct (FV Y Y λw' b=>A7 (k:=0) b Y ?_);show CE (AD (AM x.p2.a)) x.p6=AD (A6 x);exact A7S ‹_› ‹_›
  ·refine Sk<|Sr<|PE 2 Y<|Ct (FV Y Y λw' b=>A7 (k:=0) b Y ?_);show AD (AM x.p2.a)=AD (A6 x);exact A7Q ‹_› ‹_›
end Go.Sy.Eng2
