/-
  Contracts of functions of the program, walked (printed by a program of ours).
  Conditions: those that each theorem states.
-/
import Derived.Test.YtfmjgnjaoihefaaGreatDoorFct
import Derived.Test.YtfmjgnjaoihefaaGreatDoorEng1
import Derived.Test.YtfmjgnjaoihefaaGreatDoorRul
import Derived.Test.YtfmjgnjaoihefaaGreatDoorShelf
set_option linter.unusedVariables false
set_option maxRecDepth 20000
namespace Go.Sy.Eng2
open Go Go.RowKit Go.Proofs Go.Sy
open Go.Sy.Bel1 Go.Sy.Ev1 Go.Sy.Ev2 Go.Sy.Eng1
theorem UB(w0:World)(o:List Chunk)(w:World)(a:Value)(l:List ByteArray)(hsz:l.length<=4294967296)(h:St w0 (ov [a] (l:List ByteArray)::o) w):Cy 254 [a] w (λe w'=>e= .returned (.tuple #[])/\St w0 (ov [a] (G3 l:List ByteArray)::o) w'):=by
 obtain⟨fp,hok,hn,hb,put⟩:=h.set (k:=0) rfl
 rcases owF hok with ⟨h1,d,_⟩|⟨g,cap,cur,h1,d,r,s,p,t,u⟩
 ·subst h1;subst d;refine(Tryz.sort_Strings_none none 0 w).mono λe w' ⟨he,hw⟩=>⟨he,?_⟩
  subst hw;rw[show G3 []=[] by simp[G3]];exact h
 ·subst t;subst h1;have hH:Go.Sort.Holds Go.Proofs.encStr w g 0 (l.map (·.data.toList)).toArray:=λj hj=>by
   have m:j<l.length:=by simpa using hj
   obtain⟨x,hx⟩:=sL m;refine⟨?_,by simp[World.frozen?,d]⟩;rw[Nat.zero_add,cell_of_heap d,u j x hx];rw[getElem!_pos _ j hj];obtain⟨b,c⟩:=List.getElem?_eq_some_iff.1 hx;simp only[List.getElem_toArray,List.getElem_map,c];rfl
  have hlen:((l.map (·.data.toList)).length)=l.length:=by simp
  have hcall:=Tryz.sort_Strings g 0 cap (l.map (·.data.toList)) w hH (lt_of_heap d) (by rw[hlen];omega);rw[hlen] at hcall;refine hcall.mono λe w' ⟨he,n,os,hw⟩=>⟨he,?_⟩
  subst hw;have hheap:(Go.Sort.grow (Go.Sort.putRow Go.Proofs.encStr (Go.Sort.ahead w n) g 0 ((l.map (·.data.toList)).mergeSort λx y=>decide (x<=y)).toArray) os).heap[g]?=some (.cells (Go.Sort.putCells Go.Proofs.encStr 0 ((l.map (·.data.toList)).mergeSort λx y=>decide (x<=y)).toArray cur) (Tid.id ByteArray) (0,0)):=by
   rw[Go.Sort.heap_grow_old _ _ (by simp[Go.Sort.ahead];exact lt_of_heap d)];simp[Go.Sort.putRow,Go.Sort.mapBlock,Go.Sort.ahead,Array.getElem?_modify,d,Go.Sort.onCells]
  refine put _ (ov [.slice (some ⟨g,0,none⟩) l.length cap] (G3 l)) [g] ⟨Y,Y,Y,by simp[Go.Sort.ahead],λk hk hkn=>?_⟩ ?_ (by simp) (λq hq=>⟨.inl hq,?_⟩)
  ·have hne:g≠k:=λe=>hkn (by simp[e])
   rw[Go.Sort.heap_grow_old _ _ (by simpa [Go.Sort.ahead] using hk)];simp[Go.Sort.putRow,Go.Sort.mapBlock,Go.Sort.ahead,Array.getElem?_modify,hne]
  ·have hl:=T6 l;show Gd.ow _ [.slice (some ⟨g,0,none⟩) l.length cap] (G3 l) [g];rw[<-hl];refine YK hheap (by rw[hl];exact r) s (by simp[Go.Sort.putCells,p]) (λi x hx=>?_);have hi:=lS hx;have f:i<((l.map (·.data.toList)).mergeSort λx y=>decide (x<=y)).length:=by simpa [G3] using hi
   simp only[G3,List.getElem?_map,List.getElem?_eq_getElem f,Option.map_some,Option.some.injEq] at hx;subst hx;have hic:i<cur.size:=by rw[p];omega
   simp only[Go.Sort.putCells,Array.getElem?_mapIdx,Array.getElem?_eq_getElem hic,Option.map_some,Option.some.injEq];rw[if_pos ⟨Nat.zero_le _,by simpa using f⟩,getElem!_pos _ _ (by simpa using f)];simp;rfl
  ·have:=hb q hq;simp only[Go.Sort.size_grow,Go.Sort.size_putRow];show q<w.heap.size+os.size;omega
theorem IQ{w:World}{c:Value}{l:(List ByteArray)}(d:Gd.rd w [c] l)(m:l.length<=4294967296):Cy 222 [c] w (HH w (AD l:List ByteArray)):=by
 have n:=rM d;refine enter 35 Tryz.func222 Y Y Y (Sr (Pe Y (Sr (p1 Y (CG (α:=ByteArray) (li Y (PW (α:=ByteArray) (ys:=l) AU QZ Y Y Y Y Y Y (λw' hs=>(rA hs d)) (by simp;omega) (by simp;omega) λv2=>?_)))))));refine Pe Y (Dh ([ov [v2] (([])++l:(List ByteArray))]) Y (Sr (p1 Y (li Y (cm A3c Y Y Y Y (λw' hs=>UB _ _ w' v2 (([])++l) ‹_› hs) ?_)))));refine Dx (Dh ([ov [v2] (G3 (([])++l):(List ByteArray))]) Y (Cq ?_));have hsl:(G3 ([]++l)).length=l.length:=T6 l;refine Cr (Pe Y (Cq (Sr (p1 Y (q1 Y (B7 0 AU Y Y Y) (Pe Y (Cb (Cl (λm_ ac w'=>∃(k:Nat),∃(v:Value),(k<=l.length)/\m_=l.length-k/\Fits ac 35 [(3,v2),(4,v),(11,v2),(12,(nv ((G3 (([])++l)).length))),(13,(nv k))]/\St w ([ov [v] (E2 (G3 ([]++l)) k:(List ByteArray)),ov [v2] (G3 (([])++l):(List ByteArray))]) w') ?_ ?_))))))))
 ·refine CG (α:=ByteArray) (A3 0 Y (show([]:(List ByteArray))=E2 (G3 ([]++l)) 0 from by rfl) (λac w' hf hs=>⟨_,0,(.slice none 0 0),?_,Y,hf.wk Y,hs⟩))
  ·omega
 ·rintro m_ ac w' ⟨k,v,hk,rfl,hf,hs⟩;refine D.use ?_ hf hs;clear hf hs ac w';have hcl:=W6 (G3 ([]++l)) k;refine Sr (Pe Y (Dh ([_,_]) Y (Cq (Cd Y (λf=>?_) (λf=>?_)))))
  ·refine Sk (Cq (Cb (Sr (p1 Y ?_))));obtain⟨b,a⟩:=sI (G3 (([])++l)) k;refine q1 Y (AJ (l:=(G3 (([])++l))) (j:=k) AU Y Y Y (λw' hs=>(rO (k:=1) hs Y)) Y (lS a)) (q1 Y (lo (α:=ByteArray) 1 BK Y Y Y a) (P2 Y Y (Dx (Sr (P3 Y Y Y (oV 20 Y Y (λg=>?_) (λg=>?_)))))))
   ·refine n1 Y (n1 Y (n1 Y (n1 Y (n1 Y (n1 Y (n1 Y (Pe Y (AH [3,4,6,11,12,13,28] Y (GF Y (Cr (P2 Y Y (li Y (FF AU QZ Y (by decide) (by decide) Y Y Y Y Y Y λg5=>?_)))))))))))));refine OI b (AG [2,0,1,3] Y (li Y (GZ AU QZ Y (by decide) Y Y Y Y Y Y (by omega) (by omega) λi=>?_)));refine p1 Y (De (Xb (Xt (Dh ([ov [i] ((E2 (G3 ([]++l)) k)++ [b]:(List ByteArray)),_]) Y (Cr (ad (k+1) Y (Pe Y (A3 0 Y (show((E2 (G3 ([]++l)) k)++ [b]:(List ByteArray))=E2 (G3 ([]++l)) (k+1) from by exact Y9 a (.inl (by omega))) (λac w' hf hs=>⟨_,?_,k+1,i,?_,Y,hf.wk Y,hs⟩)))))))))
    ·omega
    ·omega
   ·refine P2 Y Y (q1 Y (B3 Y Y Y (r:=((k-1:Nat):Int)) (by omega) (by omega)) ?_);obtain⟨o,e⟩:=sI (G3 (([])++l)) (k-1);refine q1 Y (AJ (l:=(G3 (([])++l))) (j:=(k-1)) AU Y Y Y (λw' hs=>(rO (k:=1) hs Y)) Y (lS e)) (q1 Y (lo (α:=ByteArray) 1 BK Y Y Y e) (p1 Y (q1 Y (E5 Y Y Y) (Pe Y (AH [3,4,6,11,12,13,28] Y (R8 Y (λh=>?_) (λh=>?_)))))))
    ·refine Cr (P2 Y Y (li Y (FF AU QZ Y (by decide) (by decide) Y Y Y Y Y Y λg8=>?_)));refine OI b (AG [2,0,1,3] Y (li Y (GZ AU QZ Y (by decide) Y Y Y Y Y Y (by omega) (by omega) λv9=>?_)));refine p1 Y (De (Xb (Xt (Dh ([ov [v9] ((E2 (G3 ([]++l)) k)++ [b]:(List ByteArray)),_]) Y (Cr (ad (k+1) Y (Pe Y (A3 0 Y (show((E2 (G3 ([]++l)) k)++ [b]:(List ByteArray))=E2 (G3 ([]++l)) (k+1) from by exact Y9 a (.inr (by simp_all))) (λac w' hf hs=>⟨_,?_,k+1,v9,?_,Y,hf.wk Y,hs⟩)))))))))
     ·omega
     ·omega
    ·refine Ck (Xb (Xt (Cr (ad (k+1) Y (Pe Y (A3 0 Y (show(E2 (G3 ([]++l)) k:(List ByteArray))=E2 (G3 ([]++l)) (k+1) from by exact jH a (by omega) (by simp_all)) (λac w' hf hs=>⟨_,?_,k+1,v,?_,Y,hf.wk Y,hs⟩)))))))
     ·omega
     ·omega
  ·refine Cx (Xx (Xx (Xe (Xt (Sr (P2 Y Y (Dx (Ct (FV Y Y λw' hs=>A7 (k:=0) hs Y ?_)))))))));show E2 (G3 ([]++l)) k=AD l;exact mD (l:=l) (by omega) (by omega)
theorem KA{w:World}{c:Value}{l:(List ByteArray)}(a:Gd.rd w [c] l)(i:l.length<=4294967296):Cy 220 [c] w (HH w (AM l:List ByteArray)):=by
 have m:=rM a;refine enter 20 Tryz.func220 Y Y Y (Sr (Pe Y (Sr (Pe Y (Cq (Sr (p1 Y (dl AU Y (AE a) (Pe Y (Cb (Cl (λm_ ac w'=>∃(k:Nat),∃(v:Value),(k<=l.length)/\m_=l.length-k/\Fits ac 20 [(3,v),(6,c),(7,(nv l.length)),(8,(nv k))]/\St w ([ov [v] (AM (l.take k):(List ByteArray))]) w') ?_ ?_)))))))))))
 ·refine CG (α:=ByteArray) (A3 0 Y (show([]:(List ByteArray))=AM (l.take 0) from by rfl) (λac w' hf hs=>⟨_,0,(.slice none 0 0),?_,Y,hf.wk Y,hs⟩))
  ·omega
 ·rintro m_ ac w' ⟨k,v,hk,rfl,hf,hs⟩;refine D.use ?_ hf hs;clear hf hs ac w';have hcl:=C1 (l.take k);have htl:(l.take k).length<=k:=by rw[List.length_take];omega
  refine Sr (Pe Y (Dh ([_]) Y (Cq (Cd Y (λe=>?_) (λe=>?_)))))
  ·refine Sk (Cq (Cb (Sr ?_)));obtain⟨d,b⟩:=sI l k;obtain⟨f,at4,g⟩:=AC (n:=1) rfl a b;obtain rfl:f=[.string d]:=g;refine q1 Y (AJ (l:=l) (j:=k) AU Y Y Y (λw' hs=>(rA hs a)) Y (lS b)) (q1 Y (HI BK Y Y at4 Y) (Pe Y (Sr (p1 Y (qv aZ Y (λw' hs=>J9) (Dx (Ci _ Y (λo=>?_) (λo=>?_))))))))
   ·refine Cr (P2 Y Y (li Y (FF AU QZ Y (by decide) (by decide) Y Y Y Y Y Y λg7=>?_)));refine OI d (AG [2,0,1] Y (li Y (GZ AU QZ Y (by decide) Y Y Y Y Y Y (by omega) (by omega) λh=>?_)));refine p1 Y (De (Xb (Xt (Dh ([ov [h] ((AM (l.take k))++ [d]:(List ByteArray))]) Y (Cr (ad (k+1) Y (Pe Y (A3 0 Y (show((AM (l.take k))++ [d]:(List ByteArray))=AM (l.take (k+1)) from by exact jI b (by simp_all)) (λac w' hf hs=>⟨_,?_,k+1,h,?_,Y,hf.wk Y,hs⟩)))))))))
    ·omega
    ·omega
   ·refine Ck (Xb (Xt (Cr (ad (k+1) Y (Pe Y (A3 0 Y (show(AM (l.take k):(List ByteArray))=AM (l.take (k+1)) from by exact jJ b (by simp_all)) (λac w' hf hs=>⟨_,?_,k+1,v,?_,Y,hf.wk Y,hs⟩)))))))
    ·omega
    ·omega
  ·refine Cx (Xx (Xx (Xe (Xt (Sr (P2 Y Y (Dx (Ct (FV Y Y λw' hs=>A7 (k:=0) hs Y ?_)))))))));show AM (l.take k)=AM l;rw[List.take_of_length_le (by omega)]
theorem I8{w:World}{c:List Value}{p:Pattern}(f:Gd.rd w c p)(r:p.Args.length<=1048576)(s:IP p):Cy 207 [(.agg c.toArray)] w (HH w (AD (AM p.Args):List ByteArray)):=by
 obtain⟨q,rfl,b⟩:=B8 f;have t:=rM b;refine enter 27 Tryz.func207 Y Y Y (Sr (bX Y λg4=>?_));refine Pe Y (Dh ([bx g4 [(.string p.Rel),q]]) Y (Sr (li Y (FL (α:=ByteArray) AU Y Y Y λv5=>?_))));refine Pe Y (Dh ([ov [v5] ([]:(List ByteArray)),_]) Y (Cq (Sr (Pe Y (Cb (Cl (λm_ ac w'=>∃(k:Nat),∃(v:Value),(k<=p.Args.length)/\m_=p.Args.length-k/\Fits ac 27 [(1,(pv g4)),(3,v),(4,(nv k))]/\St w ([ov [v] (AD (AM (p.Args.take k)):(List ByteArray)),bx g4 [(.string p.Rel),q]]) w') ?_ ?_))))))
 ·refine A3 0 Y (show([]:(List ByteArray))=AD (AM (p.Args.take 0)) from by rfl) (λac w' hf hs=>⟨_,0,v5,?_,Y,hf.wk Y,hs⟩)
  ·omega
 ·rintro m_ ac w' ⟨k,v,hk,rfl,hf,hs⟩;refine D.use ?_ hf hs;clear hf hs ac w';have hcs:=BO (AM (p.Args.take k));have hcl:=C1 (p.Args.take k);have htl:(p.Args.take k).length<=k:=by rw[List.length_take];omega
  refine Cq (Sr (p1 Y (fl 1 C4 B5 Y (dl AU Y (AE b) (Pe Y (Dh ([_,_]) Y (Cd Y (λg=>?_) (λg=>?_))))))))
  ·refine Sk (Cq (Cb (Sr (fl 1 C4 B5 Y (p1 Y ?_)))));obtain⟨e,a⟩:=sI p.Args k;have h:e.size<=9223372036854775807:=s.2 _ (List.mem_of_getElem? a);obtain⟨i,at8,m⟩:=AC (n:=1) rfl b a;obtain rfl:i=[.string e]:=m;refine q1 Y (AJ (l:=p.Args) (j:=k) AU Y Y Y (λw' hs=>(rA hs b)) Y (lS a)) (q1 Y (HI BK Y Y at8 Y) (qv SD Y (λw' hs=>(GQ h)) (Dx (Ci _ Y (λo=>?_) (λo=>?_)))))
   ·refine Cr (p1 Y (fl 1 C4 B5 Y (p1 Y (q1 Y (AJ (l:=p.Args) (j:=k) AU Y Y Y (λw' hs=>(rA hs b)) Y (lS a)) (q1 Y (HI BK Y Y at8 Y) (ql TU Y (λw' hs=>(HR (rO (k:=0) hs Y) (by omega))) λd=>?_))))));refine p1 Y (De (Xb (Xt (AH [1,3,4] Y (Dh ([ov [d] (CE (AD (AM (p.Args.take k))) e:(List ByteArray)),_,_]) Y (Cr (p1 Y (ad (k+1) Y (Pe Y (A3 0 Y (show(CE (AD (AM (p.Args.take k))) e:(List ByteArray))=AD (AM (p.Args.take (k+1))) from by exact wM a (by simp_all)) (λac w' hf hs=>⟨_,?_,k+1,d,?_,Y,hf.wk Y,hs.pk [0,2] Y Y⟩)))))))))))
    ·omega
    ·omega
   ·refine Ck (Xb (Xt (Cr (p1 Y (ad (k+1) Y (Pe Y (A3 0 Y (show(AD (AM (p.Args.take k)):(List ByteArray))=AD (AM (p.Args.take (k+1))) from by exact wN a (by simp_all)) (λac w' hf hs=>⟨_,?_,k+1,v,?_,Y,hf.wk Y,hs⟩))))))))
    ·omega
    ·omega
  ·refine Cx (Xx (Xx (Xe (Xt (Sr (P2 Y Y (Dx (Ct (FV Y Y λw' hs=>A7 (k:=0) hs Y ?_)))))))));show AD (AM (p.Args.take k))=AD (AM p.Args);rw[List.take_of_length_le (by omega)]
theorem KB{w:World}{a:Value}{l:(List ByteArray)}(b:Gd.rd w [a] l)(c:l.length<=4294967296):Cy 158 [a] w (HH w (l:List ByteArray)):=by
 have d:=rM b;refine enter 5 Tryz.func158 Y Y Y (Sr (Pe Y (Sr (p1 Y (CG (α:=ByteArray) (li Y (PW (α:=ByteArray) (ys:=l) AU QZ Y Y Y Y Y Y (λw' hs=>(rA hs b)) (by simp;omega) (by simp;omega) λv2=>?_)))))));refine Pe Y (Ct (FV Y Y λw' hs=>A7 (k:=0) hs Y ?_));show([])++l=l;simp
theorem ZE{w:World}{a:Value}{l:(List ByteArray)}(b:Gd.rd w [a] l)(c:l.length<=4294967296):Cy 144 [a] w (HH w (l:List ByteArray)):=by
 have d:=rM b;refine enter 6 Tryz.func144 Y Y Y (Sr (Pe Y (Sr (li Y (FL (α:=ByteArray) AU Y Y Y λv2=>?_)))));refine p1 Y (li Y (PW (α:=ByteArray) (ys:=l) AU QZ Y Y Y Y Y Y (λw' hs=>(rA hs b)) (by simp;omega) (by simp;omega) λv3=>?_));refine Pe Y (Ct (FV Y Y λw' hs=>A7 (k:=0) hs Y ?_));show([])++l=l;simp
theorem ZF{w:World}{b:List Value}{x:Cond}(c:Gd.rd w b x)(j:BW x<=1048576):Cy 276 [(.agg b.toArray)] w (HH w (x.Pattern.Args++ [x.Left,x.Right]:List ByteArray)):=by
 obtain⟨f,rfl,a⟩:=A8 c;have g:=rM a;have h:=AK c;have hca:=BX x;have hcv:=EF x;refine enter 13 Tryz.func276 Y Y Y (Sr (bX Y λg5=>?_));refine Pe Y (Dh ([bx g5 [(iv x.Kind),(.string x.Pattern.Rel),f,(.string x.Left),(.string x.Right)]]) Y (Cq (A1K (λac w'=>∃(d:Value),Fits ac 13 [(2,d)]/\St w ([ov [d] (x.Pattern.Args++([x.Left,x.Right]):(List ByteArray)),bx g5 [(iv x.Kind),(.string x.Pattern.Rel),f,(.string x.Left),(.string x.Right)]]) w') ?_ ?_)))
 ·refine A0 mixed [9,10] (by kernel_rfl) (Tk 0 Y Y (Db CB Y Y (q:=1) Y) (Tk 1 Y Y (Db C4 Y Y (q:=2) Y) (Tk 2 Y Y (lb 0 B5 Y Y Y Y) (Tk 4 Y Y (Db EO Y Y (q:=3) Y) (Tk 5 Y Y (lb 0 BK Y Y Y Y) (Tk 6 Y Y (Db D5 Y Y (q:=4) Y) (Tk 7 Y Y (lb 0 BK Y Y Y Y) (tyN [3,8] Y (by kernel_rfl) ⟨⟨_,Y,Y,?_⟩,⟨_,Y,Y,?_⟩,trivial⟩))))))))
  ·refine id (YJ pN Y Y Y Y (λw' hs=>(KB (rA hs a) (by omega))) λl=>?_);refine tS (λ_ hs=>hs.pk [1] Y Y) (ty 8 Y Y (oO (α:=ByteArray) (xs:=[.tmp 8, .tmp 10]) (ys:=[x.Left,x.Right]) AU QZ Y Y Y Y (by decide) (by decide) Y Y λm=>?_));refine tS (λ_ hs=>hs.pk [2] Y Y) (AG [1,0,2] Y (ty 9 Y Y (PW (α:=ByteArray) (ys:=([x.Left,x.Right])) AU QZ Y Y Y Y Y Y (λw' hs=>(rO (k:=1) hs Y)) (by simp;omega) (by simp;omega) λd=>?_)));refine tZ Y (tW 10 Y Y Y (tE (Xt (λac w' hf hs=>⟨d,hf.wk Y,hs.pk [0,2] Y Y⟩))))
  ·refine id (oO (α:=ByteArray) (xs:=[.tmp 8, .tmp 10]) (ys:=[x.Left,x.Right]) AU QZ Y Y Y Y (by decide) (by decide) Y Y λv9=>?_);refine tS (λ_ hs=>hs.pk [1] Y Y) (ty 3 Y Y (YJ pN Y Y Y Y (λw' hs=>(KB (rA hs a) (by omega))) λi=>?_));refine tS (λ_ hs=>hs.pk [2] Y Y) (ty 9 Y Y (PW (α:=ByteArray) (ys:=([x.Left,x.Right])) AU QZ Y Y Y Y Y Y (λw' hs=>(rO (k:=1) hs Y)) (by simp;omega) (by simp;omega) λe=>?_));refine tZ Y (tW 10 Y Y Y (tE (Xt (λac w' hf hs=>⟨e,hf.wk Y,hs.pk [0,2] Y Y⟩))))
 rintro ac w' ⟨d,hf,hs⟩;refine D.use ?_ hf hs;clear hf hs ac w';refine Xt (Ct (FV Y Y λw' hs=>A7 (k:=0) hs Y ?_));show x.Pattern.Args++([x.Left,x.Right])=x.Pattern.Args++ [x.Left,x.Right];rfl
theorem LC{w:World}{b:List Value}{x:Cond}(a:Gd.rd w b x)(g:BW x<=1048576):Cy 252 [(.agg b.toArray)] w (HH w (AD (A6 x):List ByteArray)):=by
 obtain⟨d,rfl,c⟩:=A8 a;have e:=rM c;have f:=AK a;have hca:=BX x;have hcv:=EF x;have hal:(x.Pattern.Args++ [x.Left,x.Right]).length=x.Pattern.Args.length+2:=by simp
 have hvl:=C1 (x.Pattern.Args++ [x.Left,x.Right]);refine enter 7 Tryz.func252 Y Y Y (Sr (bX Y λg5=>?_));refine Pe Y (Dh ([bx g5 [(iv x.Kind),(.string x.Pattern.Rel),d,(.string x.Left),(.string x.Right)]]) Y (Sr (q1 Y (C9 0 D4 Y Y Y) (ql A3d Y (λw' hs=>(ZF (rA hs a) ‹_›)) λh=>?_))));refine ql pP Y (λw' hs=>(KA (rO (k:=0) hs Y) (by omega))) λi=>?_
 refine ql pR Y (λw' hs=>(IQ (rO (k:=0) hs Y) (by omega))) λj=>?_
 refine Pe Y (Ct (FV Y Y λw' hs=>A7 (k:=0) hs Y ?_));show AD (AM (x.Pattern.Args++ [x.Left,x.Right]))=AD (A6 x);rfl
theorem IY{w:World}{a:List Value}{x:Cond}(b:Gd.rd w a x)(o:BW x<=1048576)(c:LB x):Cy 202 [(.agg a.toArray)] w (HH w (AD (A6 x):List ByteArray)):=by
 obtain⟨g,rfl,d⟩:=A8 b;have h:=rM d;have e:=AK b;have hca:=BX x;have hcv:=EF x;have hsl:=BO (AM x.Pattern.Args);have hvl:=C1 x.Pattern.Args;have hpl:=QE (AD (AM x.Pattern.Args)) x.Left;refine enter 22 Tryz.func202 Y Y Y (Sr (bX Y λg5=>?_));refine Pe Y (Dh ([bx g5 [(iv x.Kind),(.string x.Pattern.Rel),g,(.string x.Left),(.string x.Right)]]) Y (Sr (q1 Y (Db CB Y Y (q:=1) Y) (q1 Y (H2 (es:=[(.string x.Pattern.Rel),g]) 0 HA Y Y Y Y) (ql bC Y (λw' hs=>(I8 (rA hs e) (by omega) c.2.1)) λi=>?_)))));refine Pe Y (Dh ([ov [i] (AD (AM x.Pattern.Args):(List ByteArray)),_]) Y (Cq (Sr (fl 1 EO BK Y (qv SD Y (λw' hs=>(GQ (by exact c.2.2.1))) (Dx (Ci _ Y (λj=>?_) (λj=>?_))))))))
 ·refine Cr (p1 Y (fl 1 EO BK Y (ql TU Y (λw' hs=>(HR (rO (k:=0) hs Y) (by omega))) λl=>?_)));refine Pe Y (Dh ([ov [l] (CE (AD (AM x.Pattern.Args)) x.Left:(List ByteArray)),_,_]) Y (Cq (Sr (fl 2 D5 BK Y (qv SD Y (λw' hs=>(GQ (by exact c.2.2.2))) (Dx (Ci _ Y (λm=>?_) (λm=>?_))))))))
  ·refine Cr (p1 Y (fl 2 D5 BK Y (ql TU Y (λw' hs=>(HR (rO (k:=0) hs Y) (by omega))) λn=>?_)));refine Pe Y (Sr (P2 Y Y (Dx (Ct (FV Y Y λw' hs=>A7 (k:=0) hs Y ?_)))));show CE (CE (AD (AM x.Pattern.Args)) x.Left) x.Right=AD (A6 x);exact A7T ‹_› ‹_›
  ·refine Sk (Sr (P2 Y Y (Dx (Ct (FV Y Y λw' hs=>A7 (k:=0) hs Y ?_)))));show CE (AD (AM x.Pattern.Args)) x.Left=AD (A6 x);exact A7R ‹_› ‹_›
 ·refine Sk (Cq (Sr (fl 1 D5 BK Y (qv SD Y (λw' hs=>(GQ (by exact c.2.2.2))) (Dx (Ci _ Y (λf=>?_) (λf=>?_)))))))
  ·refine Cr (p1 Y (fl 1 D5 BK Y (ql TU Y (λw' hs=>(HR (rO (k:=0) hs Y) (by omega))) λv12=>?_)));refine Pe Y (Sr (P2 Y Y (Dx (Ct (FV Y Y λw' hs=>A7 (k:=0) hs Y ?_)))));show CE (AD (AM x.Pattern.Args)) x.Right=AD (A6 x);exact A7S ‹_› ‹_›
  ·refine Sk (Sr (P2 Y Y (Dx (Ct (FV Y Y λw' hs=>A7 (k:=0) hs Y ?_)))));show AD (AM x.Pattern.Args)=AD (A6 x);exact A7Q ‹_› ‹_›
end Go.Sy.Eng2
