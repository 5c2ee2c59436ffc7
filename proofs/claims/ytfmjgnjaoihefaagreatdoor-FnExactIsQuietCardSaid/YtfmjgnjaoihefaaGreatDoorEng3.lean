/-
  Contracts of functions of the program, walked (printed by a program of ours).
  Conditions: those that each theorem states.
-/
import Derived.Test.YtfmjgnjaoihefaaGreatDoorFct
import Derived.Test.YtfmjgnjaoihefaaGreatDoorEng2
set_option linter.unusedVariables false
set_option maxRecDepth 20000
namespace Go.Sy.Eng3
open Go Go.RowKit Go.Proofs Go.Sy
open Go.Sy.Bel1 Go.Sy.Ev1 Go.Sy.Ev2 Go.Sy.Eng1 Go.Sy.Eng2
theorem NM{w:World}{g:List Value}{r:Rule}{n:Int}(o:Gd.rd w g r)(hn:BG r<=1048576):Cy 218 [(.agg g.toArray),(iv n)] w (HH w (AD (DR r n):List ByteArray)):=by
 obtain⟨p,u,rfl,d,s⟩:=BC o;have a0:=rM d;have a1:=rM s;unfold BG DD at hn;refine enter 33 Tryz.func218 Y Y Y (Sr (bX Y λg7=>?_));refine Pe Y (Dh ([bx g7 [(.string r.Name),(iv r.Priority),p,u]]) Y (Sr (Pe Y (Cq (Sr (fl 0 CO GN Y (dl D6 Y (AE d) (Pe Y (Cb (Cl (λm_ ac w'=>∃(k:Nat),∃(v:Value),(k<=r.If.length)/\m_=r.If.length-k/\Fits ac 33 [(1,(iv n)),(5,v),(9,p),(10,(nv r.If.length)),(11,(nv k))]/\St w ([ov [v] (V5 r n k:(List ByteArray)),bx g7 [(.string r.Name),(iv r.Priority),p,u]]) w') ?_ ?_))))))))))
 ·refine CG (α:=ByteArray) (A3 0 Y (show([]:(List ByteArray))=V5 r n 0 from by exact wQ r n) (λac w' hf hs=>⟨_,0,(.slice none 0 0),?_,Y,hf.wk Y,hs⟩))
  ·omega
 ·rintro m_ ac w' ⟨k,v,hk,rfl,hf,hs⟩;refine D.use ?_ hf hs;clear hf hs ac w';have hcl:=wO r n k;refine Sr (Pe Y (Dh ([_,_]) Y (Cq (Cd Y (λt=>?_) (λt=>?_)))))
  ·refine Sk (Cq (Cb (Sr (p1 Y ?_))));obtain⟨a,b⟩:=sI r.If k;have hcz:=IX b;have hca:=BX a;have hvl:=C1 a.Pattern.Args;have hsl:=BO (AM a.Pattern.Args);have x:=EF a;have hscl:=BO (A6 a);obtain⟨a2,h,e⟩:=AC (n:=5) rfl d b;obtain⟨f,rfl,c⟩:=A8 e;have y:=rM c;have z:=AK e;refine q1 Y (AJ (l:=r.If) (j:=k) D6 Y Y Y (λw' hs=>(rA hs d)) Y (lS b)) (q1 Y (EX D4 Y Y h) (aL MN Y λg16=>?_));refine p1 Y (li Y (AZ (vs:=[(iv a.Kind),(.string a.Pattern.Rel),f,(.string a.Left),(.string a.Right)]) (cs':=[(iv a.Kind),(.string a.Pattern.Rel),f,(.string a.Left),(.string a.Right)]) 0 M3 Y Y Y Y Y Y (AB Y (AB Y (AB (A2 c) (AB Y (AB Y BR))))) (by simp) Y ?_));refine Dx (Dh ([bx g16 [(iv a.Kind),(.string a.Pattern.Rel),f,(.string a.Left),(.string a.Right)],_,_]) Y (Sr (P3 Y Y Y (p1 Y (EY 19 Y Y (λi=>?_) (λi=>?_))))))
   ·refine fl 0 C0 CJ Y (P2 Y Y (Dx (Ce Y (λm=>?_) (λm=>?_))))
    ·refine Cr (p1 Y (q1 Y (Db CB Y Y (q:=1) Y) (fl 0 C4 B5 Y (ql pP Y (λw' hs=>(KA (rA hs c) (by omega))) λa3=>?_))));refine AG [2,0,1,3] Y (li Y (PW (α:=ByteArray) (ys:=(AM a.Pattern.Args)) AU QZ Y Y Y Y Y Y (λw' hs=>(rO (k:=1) hs Y)) (by omega) (by omega) λv20=>?_));refine p1 Y (De (Xb (Xt (AH [1,5,9,10,11] Y (AG [0,3] Y (Dh ([ov [v20] ((V5 r n k)++(AM a.Pattern.Args):(List ByteArray)),_]) Y (Cr (ad (k+1) Y (Pe Y (A3 0 Y (show((V5 r n k)++(AM a.Pattern.Args):(List ByteArray))=V5 r n (k+1) from by exact A5M b (by omega) (by omega)) (λac w' hf hs=>⟨_,?_,k+1,v20,?_,Y,hf.wk Y,hs⟩)))))))))))
     ·omega
     ·omega
    ·refine Ck (Xb (Xt (Cr (ad (k+1) Y (Pe Y (A3 1 Y (show(V5 r n k:(List ByteArray))=V5 r n (k+1) from by exact A0i b (.inr (by omega))) (λac w' hf hs=>⟨_,?_,k+1,v,?_,Y,hf.wk Y,hs.pk [1,2] Y Y⟩)))))))
     ·omega
     ·omega
   ·refine n1 Y (n1 Y (n1 Y (Pe Y (G7 Y (Ck (Xb (Xt (Cr (ad (k+1) Y (Pe Y (A3 1 Y (show(V5 r n k:(List ByteArray))=V5 r n (k+1) from by exact A0i b (.inl (by omega))) (λac w' hf hs=>⟨_,?_,k+1,v,?_,Y,hf.wk Y,hs.pk [1,2] Y Y⟩))))))))))))
    ·omega
    ·omega
  ·refine Cx (Xx (Xx (Xe (Xt (Sr (p1 Y (ql pR Y (λw' hs=>(IQ (rO (k:=0) hs Y) (by omega))) λv21=>?_)))))));refine Pe Y (Ct (FV Y Y λw' hs=>A7 (k:=0) hs Y ?_));show AD (V5 r n k)=AD (DR r n);rw[qW (by omega) (by omega)]
theorem KC{w:World}{m:List Value}{r:Rule}{n:Int}(x:Gd.rd w m r)(hn:BG r<=1048576)(ho:H9 r):Cy 200 [(.agg m.toArray),(iv n)] w (HH w (AD (DR r n):List ByteArray)):=by
 obtain⟨y,z,rfl,c,a0⟩:=BC x;have a5:=rM c;have a6:=rM a0;unfold BG DD at hn;refine enter 49 Tryz.func200 Y Y Y (Sr (bX Y λg7=>?_));refine Pe Y (Dh ([bx g7 [(.string r.Name),(iv r.Priority),y,z]]) Y (Sr (li Y (FL (α:=ByteArray) AU Y Y Y λv8=>?_))));refine Pe Y (Dh ([ov [v8] ([]:(List ByteArray)),_]) Y (Cq (Sr (Pe Y (Cb (Cl (λm_ ac w'=>∃(i:Nat),∃(v:Value),(i<=r.If.length)/\(i=0\/(i:Int)<=n)/\m_=r.If.length-i/\Fits ac 49 [(1,(iv n)),(2,(pv g7)),(5,v),(6,(nv i))]/\St w ([ov [v] (AD (MV r i):(List ByteArray)),bx g7 [(.string r.Name),(iv r.Priority),y,z]]) w') ?_ ?_))))))
 ·refine A3 0 Y (show([]:(List ByteArray))=AD (MV r 0) from by exact rC r) (λac w' hf hs=>⟨_,0,v8,?_,?_,Y,hf.wk Y,hs⟩)
  ·omega
  ·exact .inl rfl
 ·rintro m_ ac w' ⟨i,v,hi,hin,rfl,hf,hs⟩;refine D.use ?_ hf hs;clear hf hs ac w';have hcl:=jL r i;have hcs:=BO (MV r i);refine Cq (Sr (p1 Y (fl 1 CO GN Y (dl D6 Y (AE c) (P2 Y Y (EY 15 Y Y (λa1=>?_) (λa1=>?_)))))))
  ·refine P3 Y Y Y (Pe Y (Dh ([_,_]) Y (Cd Y (λo=>?_) (λo=>?_))))
   ·refine Sk (Cq (Cb (Sr (fl 1 CO GN Y (p1 Y ?_)))));obtain⟨a,b⟩:=sI r.If i;have hcz:=IX b;have hca:=BX a;have hvl:=C1 a.Pattern.Args;have hsl:=BO (AM a.Pattern.Args);have a2:=EF a;have hscl:=BO (A6 a);have hco:=ho.2.2.1 _ (List.mem_of_getElem? b);obtain⟨a3,d,e⟩:=AC (n:=5) rfl c b;obtain⟨a7,rfl,p⟩:=A8 e;have a4:=rM p;have s:=AK e;refine q1 Y (AJ (l:=r.If) (j:=i) D6 Y Y Y (λw' hs=>(rA hs c)) Y (lS b)) (q1 Y (B2 C0 Y Y) (q1 Y (lr CJ Y Y d Y) (Pe Y (AH [1,2,5,6,28] Y (Ce Y (λt=>?_) (λt=>?_))))))
    ·refine Sr (fl 1 CO GN Y (p1 Y (q1 Y (AJ (l:=r.If) (j:=i) D6 Y Y Y (λw' hs=>(rA hs c)) Y (lS b)) (q1 Y (B2 CB Y Y) (q1 Y (EX HA Y Y (Q1 (f:=1) (n:=2) d Y)) (ql bC Y (λw' hs=>(I8 (rA hs s) (by omega) (by exact hco.2.1))) λg=>?_))))));refine Pe Y (Dh ([ov [g] (AD (AM a.Pattern.Args):(List ByteArray)),_,_]) Y (Sr (Pe Y (Cb (Cl (λm_ ac w'=>∃(q:Nat),∃(v2:Value),(q<=(AD (AM a.Pattern.Args)).length)/\m_=(AD (AM a.Pattern.Args)).length-q/\Fits ac 49 [(1,(iv n)),(2,(pv g7)),(5,v2),(6,(nv i)),(7,g),(8,(nv q))]/\St w ([ov [g] (AD (AM a.Pattern.Args):(List ByteArray)),ov [v2] (((AD (AM a.Pattern.Args)).take q).foldl CE (AD (MV r i)):(List ByteArray)),bx g7 [(.string r.Name),(iv r.Priority),y,z]]) w') ?_ ?_)))))
     ·refine A3 1 Y (show(AD (MV r i):(List ByteArray))=((AD (AM a.Pattern.Args)).take 0).foldl CE (AD (MV r i)) from by rfl) (λac w' hf hs=>⟨_,0,v,?_,Y,hf.wk Y,hs⟩)
      ·omega
     ·rintro m_ ac w' ⟨q,v2,hq,rfl,hf,hs⟩;refine D.use ?_ hf hs;clear hf hs ac w';have hfl:=RA (AD (AM a.Pattern.Args)) (AD (MV r i)) q;refine Cq (Sr (P2 Y Y (q1 Y (B7 0 AU Y Y Y) (Pe Y (Dh ([_,_,_]) Y (Cd Y (λu=>?_) (λu=>?_)))))))
      ·refine Sk (Cq (Cb (Cr (P3 Y Y Y ?_))));obtain⟨y0,h⟩:=sI (AD (AM a.Pattern.Args)) q;refine q1 Y (AJ (l:=(AD (AM a.Pattern.Args))) (j:=q) AU Y Y Y (λw' hs=>(rO (k:=0) hs Y)) Y (lS h)) (q1 Y (lo (α:=ByteArray) 0 BK Y Y Y h) (ql TU Y (λw' hs=>(HR (rO (k:=1) hs Y) (by omega))) λv21=>?_));refine p1 Y (De (Xb (Xt (Dh ([ov [v21] (CE (((AD (AM a.Pattern.Args)).take q).foldl CE (AD (MV r i))) y0:(List ByteArray)),_,_,_]) Y (Cr (p1 Y (ad (q+1) Y (Pe Y (A3 0 Y (show(CE (((AD (AM a.Pattern.Args)).take q).foldl CE (AD (MV r i))) y0:(List ByteArray))=((AD (AM a.Pattern.Args)).take (q+1)).foldl CE (AD (MV r i)) from by exact PI h) (λac w' hf hs=>⟨_,?_,q+1,v21,?_,Y,hf.wk Y,hs.pk [1,0,3] Y Y⟩))))))))))
       ·omega
       ·omega
      ·refine Cx (Xx (Xx (Xe (Xb (Xt (Cr (p1 Y (ad (i+1) Y (Pe Y (A3 1 Y (show(((AD (AM a.Pattern.Args)).take q).foldl CE (AD (MV r i)):(List ByteArray))=AD (MV r (i+1)) from by exact A5P b (by omega) (by omega)) (λac w' hf hs=>⟨_,?_,i+1,v2,?_,?_,Y,hf.wk Y,hs.pk [1,2] Y Y⟩)))))))))))
       ·omega
       ·omega
       ·omega
    ·refine Ck (Xb (Xt (Cr (p1 Y (ad (i+1) Y (Pe Y (A3 0 Y (show(AD (MV r i):(List ByteArray))=AD (MV r (i+1)) from by exact A5Q b (by omega)) (λac w' hf hs=>⟨_,?_,i+1,v,?_,?_,Y,hf.wk Y,hs⟩))))))))
     ·omega
     ·omega
     ·omega
   ·refine Cx (Xx (Xx (Xe (Xt (Sr (P2 Y Y (Dx (Ct (FV Y Y λw' hs=>A7 (k:=0) hs Y ?_)))))))));show AD (MV r i)=AD (DR r n);exact jO (by omega) (by omega)
  ·refine n1 Y (n1 Y (n1 Y (Pe Y (Dh ([_,_]) Y (G7 Y (Cx (Xx (Xx (Xe (Xt (Sr (P2 Y Y (Dx (Ct (FV Y Y λw' hs=>A7 (k:=0) hs Y ?_)))))))))))))));show AD (MV r i)=AD (DR r n);exact jO (by omega) (by omega)
theorem SR{w:World}{e:Value}{l:(List Cond)}(b:Gd.rd w [e] l)(p:DD BW l<=1048576):Cy 223 [e] w (HH w (aG l l.length:List ByteArray)):=by
 have q:=rM b;unfold DD at p;refine enter 18 Tryz.func223 Y Y Y (Sr (Pe Y (Sr (Pe Y (Cq (Sr (p1 Y (dl D6 Y (AE b) (Pe Y (Cb (Cl (λm_ ac w'=>∃(k:Nat),∃(v:Value),(k<=l.length)/\m_=l.length-k/\Fits ac 18 [(3,v),(6,e),(7,(nv l.length)),(8,(nv k))]/\St w ([ov [v] (aG l k:(List ByteArray))]) w') ?_ ?_)))))))))))
 ·refine CG (α:=ByteArray) (A3 0 Y (show([]:(List ByteArray))=aG l 0 from by rfl) (λac w' hf hs=>⟨_,0,(.slice none 0 0),?_,Y,hf.wk Y,hs⟩))
  ·omega
 ·rintro m_ ac w' ⟨k,v,hk,rfl,hf,hs⟩;refine D.use ?_ hf hs;clear hf hs ac w';have hcl:=ZA l k;refine Sr (Pe Y (Dh ([_]) Y (Cq (Cd Y (λh=>?_) (λh=>?_)))))
  ·refine Sk (Cq (Cb (Sr ?_)));obtain⟨a,d⟩:=sI l k;have hcz:=C8 (c:=BW) (List.mem_of_getElem? d);have hca:=BX a;have o:=EF a;have hscl:=BO (A6 a);obtain⟨r,at4,f⟩:=AC (n:=5) rfl b d;obtain⟨i,rfl,g⟩:=A8 f;have s:=rM g;have t:=AK f;refine q1 Y (AJ (l:=l) (j:=k) D6 Y Y Y (λw' hs=>(rA hs b)) Y (lS d)) (q1 Y (EX D4 Y Y at4) (aL MN Y λg10=>?_));refine li Y (AZ (vs:=[(iv a.Kind),(.string a.Pattern.Rel),i,(.string a.Left),(.string a.Right)]) (cs':=[(iv a.Kind),(.string a.Pattern.Rel),i,(.string a.Left),(.string a.Right)]) 0 M3 Y Y Y Y Y Y (AB Y (AB Y (AB (A2 g) (AB Y (AB Y BR))))) (by simp) Y ?_);refine Dx (Dh ([bx g10 [(iv a.Kind),(.string a.Pattern.Rel),i,(.string a.Left),(.string a.Right)],_]) Y (Cr (p1 Y (q1 Y (C9 0 D4 Y Y Y) (ql pS Y (λw' hs=>(LC (rA hs f) (by omega))) λm=>?_)))));refine AG [2,0,1] Y (li Y (PW (α:=ByteArray) (ys:=(AD (A6 a))) AU QZ Y Y Y Y Y Y (λw' hs=>(rO (k:=1) hs Y)) (by omega) (by omega) λv12=>?_));refine p1 Y (De (Xb (Xt (Dh ([ov [v12] ((aG l k)++(AD (A6 a)):(List ByteArray)),ov [m] (AD (A6 a):(List ByteArray)),_]) Y (Cr (ad (k+1) Y (Pe Y (A3 0 Y (show((aG l k)++(AD (A6 a)):(List ByteArray))=aG l (k+1) from by exact qX d) (λac w' hf hs=>⟨_,?_,k+1,v12,?_,Y,hf.wk Y,hs.pk [0] Y Y⟩)))))))))
   ·omega
   ·omega
  ·refine Cx (Xx (Xx (Xe (Xt (Sr (P2 Y Y (Dx (Ct (FV Y Y λw' hs=>A7 (k:=0) hs Y ?_)))))))));show aG l k=aG l l.length;exact wR (by omega) (by omega)
theorem NN{w:World}{u:List Value}{r:Rule}{k:Int}{v:ByteArray}(a3:Gd.rd w u r)(hn:BG r<=1048576)(hv:BM v=true):Cy 253 [(.agg u.toArray),(iv k),(.string v)] w (Val w (.bool (PL r k v))):=by
 obtain⟨u1,u3,rfl,f,g⟩:=BC a3;have ah:=rM f;have ai:=rM g;unfold BG DD at hn;refine enter 42 Tryz.func253 Y Y Y (Sr (bX Y λg7=>?_));refine Pe Y (Dh ([bx g7 [(.string r.Name),(iv r.Priority),u1,u3]]) Y (Cq (Sr (fl 0 CO GN Y (dl D6 Y (AE f) (Pe Y (Cb (Cl (λm_ ac w'=>∃(q:Nat),(q<=r.If.length)/\(∀a,a<q->SQ r k v a=false)/\m_=r.If.length-q/\Fits ac 42 [(1,(iv k)),(2,(.string v)),(3,(pv g7)),(12,u1),(13,(nv r.If.length)),(14,(nv q))]/\St w ([bx g7 [(.string r.Name),(iv r.Priority),u1,u3]]) w') ?_ ?_))))))))
 ·refine λac w' hf hs=>⟨_,0,?_,?_,Y,hf.wk Y,hs⟩
  ·omega
  ·intro a ha;omega
 ·rintro m_ ac w' ⟨q,hq,hc,rfl,hf,hs⟩;refine D.use ?_ hf hs;clear hf hs ac w';refine Sr (Pe Y (Cq (Cd Y (λa4=>?_) (λa4=>?_))))
  ·refine Sk (Cq (Cb (Sr (p1 Y ?_))));obtain⟨b,c⟩:=sI r.If q;have hcz:=IX c;have hca:=BX b;have hvl:=C1 b.Pattern.Args;have hsl:=BO (AM b.Pattern.Args);have a9:=EF b;have hscl:=BO (A6 b);obtain⟨aj,x,d⟩:=AC (n:=5) rfl f c;obtain⟨s,rfl,o⟩:=A8 d;have aa:=rM o;have ab:=AK d;refine q1 Y (AJ (l:=r.If) (j:=q) D6 Y Y Y (λw' hs=>(rA hs f)) Y (lS c)) (q1 Y (EX D4 Y Y x) (aL MN Y λg16=>?_));refine p1 Y (li Y (AZ (vs:=[(iv b.Kind),(.string b.Pattern.Rel),s,(.string b.Left),(.string b.Right)]) (cs':=[(iv b.Kind),(.string b.Pattern.Rel),s,(.string b.Left),(.string b.Right)]) 0 M3 Y Y Y Y Y Y (AB Y (AB Y (AB (A2 o) (AB Y (AB Y BR))))) (by simp) Y ?_));refine Dx (Dh ([bx g16 [(iv b.Kind),(.string b.Pattern.Rel),s,(.string b.Left),(.string b.Right)],_]) Y (Sr (P3 Y Y Y (p1 Y (gxn 22 Y Y (λz=>?_) (λz=>?_))))))
   ·refine q1 Y (C9 0 D4 Y Y Y) (ql pS Y (λw' hs=>(LC (rA hs d) (by omega))) λa5=>?_);refine p1 Y (qv iV Y (λw' hs=>(JW (rO (k:=0) hs Y))) (Pe Y (Dh ([ov [a5] (AD (A6 b):(List ByteArray)),_,_]) Y (Ci _ Y (λa6=>?_) (λa6=>?_)))))
    ·refine Sr (Pe Y (Ct (Xq (Xr (Xr (Xq (Xr (Rb Y Y ?_))))))));exact jQ c (by omega) ‹_›
    ·refine Ck (Xb (Xt (AH [1,2,3,12,13,14] Y (AG [2] Y (Cr (ad (q+1) Y (Pe Y (λac w' hf hs=>⟨_,?_,q+1,?_,?_,Y,hf.wk Y,hs⟩))))))))
     ·omega
     ·omega
     ·refine AF hc ?_;exact cC c ‹_›
   ·refine n1 Y (n1 Y (n1 Y (n1 Y (Pe Y (G7 Y (Ck (Xb (Xt (AH [1,2,3,12,13,14] Y (AG [1] Y (Cr (ad (q+1) Y (Pe Y (λac w' hf hs=>⟨_,?_,q+1,?_,?_,Y,hf.wk Y,hs⟩))))))))))))))
    ·omega
    ·omega
    ·refine AF hc ?_;exact jS (by omega)
  ·refine Cx (Xx (Xx (Xe (Xt (Cq (Sr (fl 0 HB PD Y (dl JJ Y (AE g) (Pe Y (Cb (Cl (λm_ ac w'=>∃(j:Nat),(j<=r.Then.length)/\(∀i,i<j->∀a,r.Then[i]?=some a->V6 v a=false)/\m_=r.Then.length-j/\Fits ac 42 [(2,(.string v)),(30,u3),(31,(nv r.Then.length)),(32,(nv j))]/\St w ([bx g7 [(.string r.Name),(iv r.Priority),u1,u3]]) w') ?_ ?_)))))))))))
   ·refine λac w' hf hs=>⟨_,0,?_,?_,Y,hf.wk Y,hs⟩
    ·omega
    ·intro i hi;omega
   ·rintro m_ ac w' ⟨j,hj,ha,rfl,hf,hs⟩;refine D.use ?_ hf hs;clear hf hs ac w';refine Sr (Pe Y (Cq (Cd Y (λa1=>?_) (λa1=>?_))))
    ·refine Sk (Cq (Cb (Sr ?_)));obtain⟨a0,m⟩:=sI r.Then j;obtain⟨ae,a2,p⟩:=AC (n:=3) rfl g m;obtain⟨t,rfl,e⟩:=CH p;have af:=rM e;have ag:=A9 p;refine q1 Y (AJ (l:=r.Then) (j:=j) JJ Y Y Y (λw' hs=>(rA hs g)) Y (lS m)) (q1 Y (EX aX Y Y a2) (aL pD Y λa7=>?_));refine li Y (AZ (vs:=[(iv a0.Kind),(.string a0.Pattern.Rel),t]) (cs':=[(iv a0.Kind),(.string a0.Pattern.Rel),t]) 0 vY Y Y Y Y Y Y (AB Y (AB Y (AB (A2 e) BR))) (by simp) Y ?_);refine Dx (Dh ([bx a7 [(iv a0.Kind),(.string a0.Pattern.Rel),t],_]) Y (Sr (q1 Y (Db GM Y Y (q:=1) Y) (fl 0 C4 B5 Y (p1 Y (qv iV Y (λw' hs=>(JW (rA hs e))) (Dx (Ci _ Y (λa8=>?_) (λa8=>?_)))))))))
     ·refine Sr (Pe Y (Ct (Xq (Xr (Xr (Xq (Xr (Rb Y Y ?_))))))));exact wT hv m ‹_›
     ·refine Ck (Xb (Xt (Cr (ad (j+1) Y (Pe Y (λac w' hf hs=>⟨_,?_,j+1,?_,?_,Y,hf.wk Y,hs.pk [1] Y Y⟩))))))
      ·omega
      ·omega
      ·refine AF ha ?_;intro y hy;obtain rfl:y=a0:=Option.some.inj (hy.symm.trans m);exact A1o hv ‹_›
    ·refine Cx (Xx (Xx (Xe (Xt (Sr (Pe Y (Ct (Rb Y Y ?_))))))));exact A0j (λi h=>hc i (by omega)) (λi h=>ha i (by omega))
theorem RE{w:World}{o:List Value}{r:Rule}{i:Int}{v:ByteArray}(a2:Gd.rd w o r)(hn:BG r<=1048576)(ho:H9 r):Cy 205 [(.agg o.toArray),(iv i),(.string v)] w (Val w (.bool (PL r i v))):=by
 obtain⟨u1,u3,rfl,e,g⟩:=BC a2;have ah:=rM e;have ai:=rM g;unfold BG DD at hn;refine enter 45 Tryz.func205 Y Y Y (Sr (bX Y λg7=>?_));refine Pe Y (Dh ([bx g7 [(.string r.Name),(iv r.Priority),u1,u3]]) Y (Cq (Sr (Pe Y (Cb (Cl (λm_ ac w'=>∃(q:Nat),(q<=r.If.length)/\(∀a,a<q->SQ r i v a=false)/\m_=r.If.length-q/\Fits ac 45 [(1,(iv i)),(2,(.string v)),(3,(pv g7)),(7,(nv q))]/\St w ([bx g7 [(.string r.Name),(iv r.Priority),u1,u3]]) w') ?_ ?_))))))
 ·refine λac w' hf hs=>⟨_,0,?_,?_,Y,hf.wk Y,hs⟩
  ·omega
  ·intro a ha;omega
 ·rintro m_ ac w' ⟨q,hq,hc,rfl,hf,hs⟩;refine D.use ?_ hf hs;clear hf hs ac w';refine Cq (Sr (p1 Y (fl 0 CO GN Y (dl D6 Y (AE e) (Pe Y (Cd Y (λa3=>?_) (λa3=>?_)))))))
  ·refine Sk (Cq (Cb (Sr (P3 Y Y Y (p1 Y (gxn 19 Y Y (λa4=>?_) (λa4=>?_)))))))
   ·refine fl 0 CO GN Y (p1 Y ?_);obtain⟨p,b⟩:=sI r.If q;have hcz:=IX b;have hca:=BX p;have hvl:=C1 p.Pattern.Args;have hsl:=BO (AM p.Pattern.Args);have a7:=EF p;have hscl:=BO (A6 p);have hco:=ho.2.2.1 _ (List.mem_of_getElem? b);obtain⟨a8,s,d⟩:=AC (n:=5) rfl e b;obtain⟨aj,rfl,t⟩:=A8 d;have a9:=rM t;have aa:=AK d;refine q1 Y (AJ (l:=r.If) (j:=q) D6 Y Y Y (λw' hs=>(rA hs e)) Y (lS b)) (q1 Y (EX D4 Y Y s) (ql iW Y (λw' hs=>(IY (rA hs d) (by omega) hco)) λv17=>?_));refine p1 Y (qv bD Y (λw' hs=>(GW (rO (k:=0) hs Y))) (Pe Y (AH [1,2,3,7,28] Y (AG [1] Y (Ci _ Y (λa5=>?_) (λa5=>?_))))))
    ·refine Sr (Pe Y (Ct (Xq (Xr (Xr (Xq (Xr (Rb Y Y ?_))))))));exact jQ b (by omega) ‹_›
    ·refine Ck (Xb (Xt (Cr (p1 Y (ad (q+1) Y (Pe Y (λac w' hf hs=>⟨_,?_,q+1,?_,?_,Y,hf.wk Y,hs⟩)))))))
     ·omega
     ·omega
     ·refine AF hc ?_;exact cC b ‹_›
   ·refine n1 Y (n1 Y (n1 Y (n1 Y (n1 Y (n1 Y (n1 Y (n1 Y (Pe Y (AH [1,2,3,7,28] Y (G7 Y (Ck (Xb (Xt (Cr (p1 Y (ad (q+1) Y (Pe Y (λac w' hf hs=>⟨_,?_,q+1,?_,?_,Y,hf.wk Y,hs⟩))))))))))))))))))
    ·omega
    ·omega
    ·refine AF hc ?_;exact jS (by omega)
  ·refine Cx (Xx (Xx (Xe (Xt (Cq (Sr (Pe Y (Cb (Cl (λm_ ac w'=>∃(j:Nat),(j<=r.Then.length)/\(∀i,i<j->∀a,r.Then[i]?=some a->V6 v a=false)/\m_=r.Then.length-j/\Fits ac 45 [(2,(.string v)),(3,(pv g7)),(8,(nv j))]/\St w ([bx g7 [(.string r.Name),(iv r.Priority),u1,u3]]) w') ?_ ?_)))))))))
   ·refine λac w' hf hs=>⟨_,0,?_,?_,Y,hf.wk Y,hs⟩
    ·omega
    ·intro i hi;omega
   ·rintro m_ ac w' ⟨j,hj,ha,rfl,hf,hs⟩;refine D.use ?_ hf hs;clear hf hs ac w';refine Cq (Sr (p1 Y (fl 0 HB PD Y (dl JJ Y (AE g) (Pe Y (Cd Y (λu=>?_) (λu=>?_)))))))
    ·refine Sk (Cq (Cb (Sr (fl 0 HB PD Y (p1 Y ?_)))));obtain⟨a0,c⟩:=sI r.Then j;have haz:=ZD c;have haa:=J7 a0;have ab:=C1 a0.Pattern.Args;have ae:=BO (AM a0.Pattern.Args);have hao:=ho.2.2.2 _ (List.mem_of_getElem? c);obtain⟨af,x,m⟩:=AC (n:=3) rfl g c;obtain⟨ak,rfl,z⟩:=CH m;have ag:=rM z;have a1:=A9 m;refine q1 Y (AJ (l:=r.Then) (j:=j) JJ Y Y Y (λw' hs=>(rA hs g)) Y (lS c)) (q1 Y (B2 GM Y Y) (q1 Y (EX HA Y Y (Q1 (f:=1) (n:=2) x Y)) (ql bC Y (λw' hs=>(I8 (rA hs a1) (by omega) (by exact hao.2))) λv27=>?_)));refine p1 Y (qv bD Y (λw' hs=>(GW (rO (k:=0) hs Y))) (Dx (Dh ([ov [v27] (AD (AM a0.Pattern.Args):(List ByteArray)),_]) Y (Ci _ Y (λa6=>?_) (λa6=>?_)))))
     ·refine Sr (Pe Y (Ct (Xq (Xr (Xr (Xq (Xr (Rb Y Y ?_))))))));exact wU c ‹_›
     ·refine Ck (Xb (Xt (Cr (p1 Y (ad (j+1) Y (Pe Y (λac w' hf hs=>⟨_,?_,j+1,?_,?_,Y,hf.wk Y,hs.pk [1] Y Y⟩)))))))
      ·omega
      ·omega
      ·refine AF ha ?_;intro y hy;obtain rfl:y=a0:=Option.some.inj (hy.symm.trans c);exact A1p ‹_›
    ·refine Cx (Xx (Xx (Xe (Xt (Sr (Pe Y (Ct (Rb Y Y ?_))))))));exact A0j (λi h=>hc i (by omega)) (λi h=>ha i (by omega))
theorem OR{w:World}{p:List Value}{r:Rule}{k:Int}(g:Gd.rd w p r)(hn:BG r<=1048576)(h0:0<=k)(h1:k<r.If.length):Cy 217 [(.agg p.toArray),(iv k)] w (Val w (.bool (ZC r k))):=by
 obtain⟨u1,u3,rfl,m,x⟩:=BC g;have a4:=rM m;have a5:=rM x;have s:=hn;refine enter 42 Tryz.func217 Y Y Y (Sr (bX Y λg7=>?_));refine Pe Y (Dh ([bx g7 [(.string r.Name),(iv r.Priority),u1,u3]]) Y (Sr (fl 0 CO GN Y (p1 Y ?_))));obtain⟨a,c⟩:=sI r.If (k.toNat);unfold BG DD at hn;have hcz:=IX c;have hca:=BX a;have hvl:=C1 a.Pattern.Args;have hsl:=BO (AM a.Pattern.Args);have a1:=EF a;have hscl:=BO (A6 a);obtain⟨a6,at9,d⟩:=AC (n:=5) rfl m c;obtain⟨e,rfl,f⟩:=A8 d;have a2:=rM f;have a3:=AK d;refine q1 Y (AJ (l:=r.If) (j:=(k.toNat)) D6 Y Y Y (λw' hs=>(rA hs m)) (Int.toNat_of_nonneg (by omega)).symm (lS c)) (q1 Y (EX D4 Y Y at9) (aL MN Y λg15=>?_));refine li Y (AZ (vs:=[(iv a.Kind),(.string a.Pattern.Rel),e,(.string a.Left),(.string a.Right)]) (cs':=[(iv a.Kind),(.string a.Pattern.Rel),e,(.string a.Left),(.string a.Right)]) 0 M3 Y Y Y Y Y Y (AB Y (AB Y (AB (A2 f) (AB Y (AB Y BR))))) (by simp) Y ?_);refine Dx (Dh ([bx g15 [(iv a.Kind),(.string a.Pattern.Rel),e,(.string a.Left),(.string a.Right)],_]) Y (Sr (q1 Y (C9 1 I7 Y Y Y) (p1 Y (ql A0B Y (λw' hs=>(NM (rA hs g) s)) λo=>?_)))));refine Pe Y (Dh ([ov [o] (AD (DR r k):(List ByteArray)),_,_]) Y (Cq (Sr (q1 Y (C9 1 D4 Y Y Y) (ql pS Y (λw' hs=>(LC (rA hs d) (by omega))) λv17=>?_)))));refine q1 Y (B7 0 AU Y Y Y) (Pe Y (Dh ([ov [v17] (AD (A6 a):(List ByteArray)),_,_,_]) Y (Cb (Cl (λm_ ac w'=>∃(q:Nat),(q<=(AD (A6 a)).length)/\(∀i,i<q->∀y,(AD (A6 a))[i]?=some y->okV r k a y=true)/\m_=(AD (A6 a)).length-q/\Fits ac 42 [(1,(iv k)),(2,(pv g7)),(5,(pv g15)),(6,o),(18,v17),(19,(nv ((AD (A6 a)).length))),(20,(nv q))]/\St w ([ov [v17] (AD (A6 a):(List ByteArray)),ov [o] (AD (DR r k):(List ByteArray)),bx g15 [(iv a.Kind),(.string a.Pattern.Rel),e,(.string a.Left),(.string a.Right)],bx g7 [(.string r.Name),(iv r.Priority),u1,u3]]) w') ?_ ?_))))
 ·refine λac w' hf hs=>⟨_,0,?_,?_,Y,hf.wk Y,hs⟩
  ·omega
  ·intro i hi;omega
 ·rintro m_ ac w' ⟨q,hq,hi,rfl,hf,hs⟩;refine D.use ?_ hf hs;clear hf hs ac w';refine Sr (Pe Y (Cq (Cd Y (λt=>?_) (λt=>?_))))
  ·refine Sk (Cq (Cb (Sr ?_)));obtain⟨v0,b⟩:=sI (AD (A6 a)) q;refine q1 Y (AJ (l:=(AD (A6 a))) (j:=q) AU Y Y Y (λw' hs=>(rO (k:=0) hs Y)) Y (lS b)) (q1 Y (lo (α:=ByteArray) 0 BK Y Y Y b) (Pe Y (Cq (Sr (fl 2 C0 CJ Y (P2 Y Y (oV 27 Y Y (λu=>?_) (λu=>?_))))))))
   ·refine n1 Y (n1 Y (n1 Y (Pe Y (GF Y (Cx (Xx (Xe (Xt (Cr (ad (q+1) Y (Pe Y (λac w' hf hs=>⟨_,?_,q+1,?_,?_,Y,hf.wk Y,hs⟩))))))))))))
    ·omega
    ·omega
    ·refine AF hi ?_;intro y hy;obtain rfl:y=v0:=Option.some.inj (hy.symm.trans b);exact fW (by omega)
   ·refine P2 Y Y (qv iV Y (λw' hs=>(JW (rO (k:=1) hs Y))) (Pe Y (Ci _ Y (λz=>?_) (λz=>?_))))
    ·refine Cx (Xx (Xe (Xt (Cr (ad (q+1) Y (Pe Y (λac w' hf hs=>⟨_,?_,q+1,?_,?_,Y,hf.wk Y,hs⟩)))))))
     ·omega
     ·omega
     ·refine AF hi ?_;intro y hy;obtain rfl:y=v0:=Option.some.inj (hy.symm.trans b);exact T8 ‹_›
    ·refine Sk (Sr (fl 2 C0 CJ Y (P2 Y Y (gxn 35 Y Y (λv=>?_) (λv=>?_)))))
     ·refine n1 Y (n1 Y (n1 Y (n1 Y (Pe Y (AH [1,2,5,6,18,19,20,40] Y (GF Y (Sr (Pe Y (Ct (Xq (Xr (Xr (Xq (Xr (Rb Y Y ?_)))))))))))))));exact rK c b (jR (by omega) ‹_› (.inl (by omega)))
     ·refine q1 Y (C9 3 I7 Y Y Y) (P2 Y Y (qv A3e Y (λw' hs=>(NN (rA hs g) s (A1k (EW.1 (List.mem_of_getElem? b))))) (Pe Y (AH [1,2,5,6,18,19,20,40] Y (Ci _ Y (λa0=>?_) (λa0=>?_))))))
      ·refine Sr (Pe Y (Ct (Xq (Xr (Xr (Xq (Xr (Rb Y Y ?_))))))));exact rK c b (jR (by omega) ‹_› (.inr ‹_›))
      ·refine Ck (Xb (Xt (Cr (ad (q+1) Y (Pe Y (λac w' hf hs=>⟨_,?_,q+1,?_,?_,Y,hf.wk Y,hs⟩))))))
       ·omega
       ·omega
       ·refine AF hi ?_;intro y hy;obtain rfl:y=v0:=Option.some.inj (hy.symm.trans b);exact rI (by omega) ‹_›
  ·refine Cx (Xx (Xx (Xe (Xt (Sr (Pe Y (Ct (Rb Y Y ?_))))))));exact A0l c (λi h=>hi i (by omega))
set_option maxHeartbeats 4000000 in
theorem V9{w:World}{o:List Value}{r:Rule}(a7:Gd.rd w o r)(hn:BG r<=1048576)(ho:H9 r):Cy 208 [(.agg o.toArray)] w (HH w (AD (IB r++SJ r r.Then.length):List ByteArray)):=by
 obtain⟨s,t,rfl,e,g⟩:=BC a7;have ak:=rM e;have al:=rM g;unfold BG DD at hn;refine enter 63 Tryz.func208 Y Y Y (Sr (bX Y λg7=>?_));refine Pe Y (Dh ([bx g7 [(.string r.Name),(iv r.Priority),s,t]]) Y (Sr (li Y (FL (α:=ByteArray) AU Y Y Y λv8=>?_))));refine Pe Y (Dh ([ov [v8] ([]:(List ByteArray)),_]) Y (Cq (Sr (Pe Y (Cb (Cl (λm_ ac w'=>∃(k:Nat),∃(v:Value),(k<=r.If.length)/\m_=r.If.length-k/\Fits ac 63 [(1,(pv g7)),(3,v),(4,(nv k))]/\St w ([ov [v] (AD (Q9 r.If k):(List ByteArray)),bx g7 [(.string r.Name),(iv r.Priority),s,t]]) w') ?_ ?_))))))
 ·refine A3 0 Y (show([]:(List ByteArray))=AD (Q9 r.If 0) from by exact rE r.If) (λac w' hf hs=>⟨_,0,v8,?_,Y,hf.wk Y,hs⟩)
  ·omega
 ·rintro m_ ac w' ⟨k,v,hk,rfl,hf,hs⟩;refine D.use ?_ hf hs;clear hf hs ac w';have hcl:=jP r.If k;have hcs:=BO (Q9 r.If k);refine Cq (Sr (p1 Y (fl 1 CO GN Y (dl D6 Y (AE e) (Pe Y (Dh ([_,_]) Y (Cd Y (λa8=>?_) (λa8=>?_))))))))
  ·refine Sk (Cq (Cb (Sr (fl 1 CO GN Y (p1 Y ?_)))));obtain⟨a,b⟩:=sI r.If k;have hcz:=IX b;have hca:=BX a;have hvl:=C1 a.Pattern.Args;have hsl:=BO (AM a.Pattern.Args);have a9:=EF a;have hscl:=BO (A6 a);have hco:=ho.2.2.1 _ (List.mem_of_getElem? b);obtain⟨aa,u,c⟩:=AC (n:=5) rfl e b;obtain⟨am,rfl,x⟩:=A8 c;have ab:=rM x;have ae:=AK c;refine q1 Y (AJ (l:=r.If) (j:=k) D6 Y Y Y (λw' hs=>(rA hs e)) Y (lS b)) (q1 Y (EX D4 Y Y u) (ql iW Y (λw' hs=>(IY (rA hs c) (by omega) hco)) λv17=>?_));refine Pe Y (Dh ([ov [v17] (AD (A6 a):(List ByteArray)),_,_]) Y (Sr (Pe Y (Cb (Cl (λm_ ac w'=>∃(q:Nat),∃(v2:Value),(q<=(AD (A6 a)).length)/\m_=(AD (A6 a)).length-q/\Fits ac 63 [(1,(pv g7)),(3,v2),(4,(nv k)),(5,v17),(6,(nv q))]/\St w ([ov [v17] (AD (A6 a):(List ByteArray)),ov [v2] (((AD (A6 a)).take q).foldl CE (AD (Q9 r.If k)):(List ByteArray)),bx g7 [(.string r.Name),(iv r.Priority),s,t]]) w') ?_ ?_)))))
   ·refine A3 1 Y (show(AD (Q9 r.If k):(List ByteArray))=((AD (A6 a)).take 0).foldl CE (AD (Q9 r.If k)) from by rfl) (λac w' hf hs=>⟨_,0,v,?_,Y,hf.wk Y,hs⟩)
    ·omega
   ·rintro m_ ac w' ⟨q,v2,hq,rfl,hf,hs⟩;refine D.use ?_ hf hs;clear hf hs ac w';have hfl:=RA (AD (A6 a)) (AD (Q9 r.If k)) q;refine Cq (Sr (P2 Y Y (q1 Y (B7 0 AU Y Y Y) (Pe Y (Dh ([_,_,_]) Y (Cd Y (λy=>?_) (λy=>?_)))))))
    ·refine Sk (Cq (Cb (Cr (P3 Y Y Y ?_))));obtain⟨y0,i⟩:=sI (AD (A6 a)) q;refine q1 Y (AJ (l:=(AD (A6 a))) (j:=q) AU Y Y Y (λw' hs=>(rO (k:=0) hs Y)) Y (lS i)) (q1 Y (lo (α:=ByteArray) 0 BK Y Y Y i) (ql TU Y (λw' hs=>(HR (rO (k:=1) hs Y) (by omega))) λz=>?_));refine p1 Y (De (Xb (Xt (Dh ([ov [z] (CE (((AD (A6 a)).take q).foldl CE (AD (Q9 r.If k))) y0:(List ByteArray)),_,_,_]) Y (Cr (p1 Y (ad (q+1) Y (Pe Y (A3 0 Y (show(CE (((AD (A6 a)).take q).foldl CE (AD (Q9 r.If k))) y0:(List ByteArray))=((AD (A6 a)).take (q+1)).foldl CE (AD (Q9 r.If k)) from by exact PI i) (λac w' hf hs=>⟨_,?_,q+1,z,?_,Y,hf.wk Y,hs.pk [1,0,3] Y Y⟩))))))))))
     ·omega
     ·omega
    ·refine Cx (Xx (Xx (Xe (Xb (Xt (Cr (p1 Y (ad (k+1) Y (Pe Y (A3 1 Y (show(((AD (A6 a)).take q).foldl CE (AD (Q9 r.If k)):(List ByteArray))=AD (Q9 r.If (k+1)) from by exact A5R b (by omega)) (λac w' hf hs=>⟨_,?_,k+1,v2,?_,Y,hf.wk Y,hs.pk [1,2] Y Y⟩)))))))))))
     ·omega
     ·omega
  ·refine Cx (Xx (Xx (Xe (Xt (Cq (Sr (Pe Y (Cb (Cl (λm_ ac w'=>∃(j:Nat),∃(v3:Value),(j<=r.Then.length)/\m_=r.Then.length-j/\Fits ac 63 [(1,(pv g7)),(3,v3),(7,(nv j))]/\St w ([ov [v3] (AD (IB r++SJ r j):(List ByteArray)),bx g7 [(.string r.Name),(iv r.Priority),s,t]]) w') ?_ ?_)))))))))
   ·refine A3 0 Y (show(AD (Q9 r.If k):(List ByteArray))=AD (IB r++SJ r 0) from by exact rF (by omega) (by omega)) (λac w' hf hs=>⟨_,0,v,?_,Y,hf.wk Y,hs⟩)
    ·omega
   ·rintro m_ ac w' ⟨j,v3,hj,rfl,hf,hs⟩;refine D.use ?_ hf hs;clear hf hs ac w';have af:=wS r j;have hall:=rH r;have a1:=BO (IB r++SJ r j);rw[List.length_append] at a1;refine Cq (Sr (p1 Y (fl 1 HB PD Y (dl JJ Y (AE g) (Pe Y (Dh ([_,_]) Y (Cd Y (λa2=>?_) (λa2=>?_))))))))
    ·refine Sk (Cq (Cb (Sr (fl 1 HB PD Y (p1 Y ?_)))));obtain⟨a0,d⟩:=sI r.Then j;have haz:=ZD d;have haa:=J7 a0;have ag:=C1 a0.Pattern.Args;have ah:=BO (AM a0.Pattern.Args);have hao:=ho.2.2.2 _ (List.mem_of_getElem? d);obtain⟨ai,a3,h⟩:=AC (n:=3) rfl g d;obtain⟨an,rfl,a4⟩:=CH h;have aj:=rM a4;have a5:=A9 h;refine q1 Y (AJ (l:=r.Then) (j:=j) JJ Y Y Y (λw' hs=>(rA hs g)) Y (lS d)) (q1 Y (B2 GM Y Y) (q1 Y (EX HA Y Y (Q1 (f:=1) (n:=2) a3 Y)) (ql bC Y (λw' hs=>(I8 (rA hs a5) (by omega) (by exact hao.2))) λv28=>?_)));refine Pe Y (Dh ([ov [v28] (AD (AM a0.Pattern.Args):(List ByteArray)),_,_]) Y (Sr (Pe Y (Cb (Cl (λm_ ac w'=>∃(p:Nat),∃(v4:Value),(p<=(AD (AM a0.Pattern.Args)).length)/\m_=(AD (AM a0.Pattern.Args)).length-p/\Fits ac 63 [(1,(pv g7)),(3,v4),(7,(nv j)),(8,v28),(9,(nv p))]/\St w ([ov [v28] (AD (AM a0.Pattern.Args):(List ByteArray)),ov [v4] (((AD (AM a0.Pattern.Args)).take p).foldl CE (AD (IB r++SJ r j)):(List ByteArray)),bx g7 [(.string r.Name),(iv r.Priority),s,t]]) w') ?_ ?_)))))
     ·refine A3 1 Y (show(AD (IB r++SJ r j):(List ByteArray))=((AD (AM a0.Pattern.Args)).take 0).foldl CE (AD (IB r++SJ r j)) from by rfl) (λac w' hf hs=>⟨_,0,v3,?_,Y,hf.wk Y,hs⟩)
      ·omega
     ·rintro m_ ac w' ⟨p,v4,hp,rfl,hf,hs⟩;refine D.use ?_ hf hs;clear hf hs ac w';have hfl:=RA (AD (AM a0.Pattern.Args)) (AD (IB r++SJ r j)) p;refine Cq (Sr (P2 Y Y (q1 Y (B7 0 AU Y Y Y) (Pe Y (Dh ([_,_,_]) Y (Cd Y (λa6=>?_) (λa6=>?_)))))))
      ·refine Sk (Cq (Cb (Cr (P3 Y Y Y ?_))));obtain⟨z0,m⟩:=sI (AD (AM a0.Pattern.Args)) p;refine q1 Y (AJ (l:=(AD (AM a0.Pattern.Args))) (j:=p) AU Y Y Y (λw' hs=>(rO (k:=0) hs Y)) Y (lS m)) (q1 Y (lo (α:=ByteArray) 0 BK Y Y Y m) (ql TU Y (λw' hs=>(HR (rO (k:=1) hs Y) (by omega))) λv30=>?_));refine p1 Y (De (Xb (Xt (Dh ([ov [v30] (CE (((AD (AM a0.Pattern.Args)).take p).foldl CE (AD (IB r++SJ r j))) z0:(List ByteArray)),_,_,_]) Y (Cr (p1 Y (ad (p+1) Y (Pe Y (A3 0 Y (show(CE (((AD (AM a0.Pattern.Args)).take p).foldl CE (AD (IB r++SJ r j))) z0:(List ByteArray))=((AD (AM a0.Pattern.Args)).take (p+1)).foldl CE (AD (IB r++SJ r j)) from by exact PI m) (λac w' hf hs=>⟨_,?_,p+1,v30,?_,Y,hf.wk Y,hs.pk [1,0,3] Y Y⟩))))))))))
       ·omega
       ·omega
      ·refine Cx (Xx (Xx (Xe (Xb (Xt (Cr (p1 Y (ad (j+1) Y (Pe Y (A3 1 Y (show(((AD (AM a0.Pattern.Args)).take p).foldl CE (AD (IB r++SJ r j)):(List ByteArray))=AD (IB r++SJ r (j+1)) from by exact A5S d (by omega)) (λac w' hf hs=>⟨_,?_,j+1,v4,?_,Y,hf.wk Y,hs.pk [1,2] Y Y⟩)))))))))))
       ·omega
       ·omega
    ·refine Cx (Xx (Xx (Xe (Xt (Sr (P2 Y Y (Dx (Ct (FV Y Y λw' hs=>A7 (k:=0) hs Y ?_)))))))));show AD (IB r++SJ r j)=AD (IB r++SJ r r.Then.length);exact rG (by omega) (by omega)
theorem LD{w:World}{d:Value}{l:(List Rule)}{name:ByteArray}(a:Gd.rd w [d] l):Cy 160 [d,(.string name)] w (Val w (iv (BN l name))):=by
 have t:=rM a;refine enter 20 Tryz.func160 Y Y Y (Sr (Pe Y (Cq (Sr (p1 Y (dl HD Y (AE a) (Pe Y (Cb (Cl (λm_ ac w'=>∃(i:Nat),(i<=l.length)/\(∀j,j<i->∀q,l[j]?=some q->q.Name≠name)/\m_=l.length-i/\Fits ac 20 [(1,(.string name)),(7,d),(8,(nv l.length)),(9,(nv i))]/\St w ([]) w') ?_ ?_)))))))))
 ·refine λac w' hf hs=>⟨_,0,?_,?_,Y,hf.wk Y,hs⟩
  ·omega
  ·intro j hj;omega
 ·rintro m_ ac w' ⟨i,hi,hfn,rfl,hf,hs⟩;refine D.use ?_ hf hs;clear hf hs ac w';refine Sr (Pe Y (Cq (Cd Y (λk=>?_) (λk=>?_))))
  ·refine Sk (Cq (Cb (Sr (p1 Y ?_))));obtain⟨e,b⟩:=sI l i;obtain⟨u,at4,m⟩:=AC (n:=4) rfl a b;obtain⟨o,p,rfl,f,c⟩:=BC m;have r:=rM f;have s:=rM c;refine q1 Y (AJ (l:=l) (j:=i) HD Y Y Y (λw' hs=>(rA hs a)) Y (lS b)) (q1 Y (EX I7 Y Y at4) (aL lT Y λg13=>?_));refine p1 Y (li Y (AZ (vs:=[(.string e.Name),(iv e.Priority),o,p]) (cs':=[(.string e.Name),(iv e.Priority),o,p]) 0 pE Y Y Y Y Y Y (AB Y (AB Y (AB (A2 f) (AB (A2 c) BR)))) (by simp) Y ?_));refine Dx (Dh ([bx g13 [(.string e.Name),(iv e.Priority),o,p]]) Y (Sr (fl 0 JK BK Y (p1 Y (q1 Y (DO Y Y Y) (Dx (Cd Y (λg=>?_) (λg=>?_))))))))
   ·refine Sr (P2 Y Y (Dx (Ct (Xq (Xr (Xr (Xq (Xr (Ri Y Y ?_)))))))));show(((i:Nat):Int):Int)=_;exact qZ b ‹_› hfn
   ·refine Ck (Xb (Xt (Cr (ad (i+1) Y (Pe Y (λac w' hf hs=>⟨_,?_,i+1,?_,?_,Y,hf.wk Y,hs.pk [] Y Y⟩))))))
    ·omega
    ·omega
    ·refine AF hfn ?_;intro y hy;obtain rfl:y=e:=Option.some.inj (hy.symm.trans b);assumption
  ·refine Cx (Xx (Xx (Xe (Xt (Sr (Pe Y (Ct (Ri Y Y ?_))))))));show((-1):Int)=_;exact rB (λj h=>hfn j (by omega))
theorem LE{w:World}{c:Value}{l:(List Rule)}{name:ByteArray}(a:Gd.rd w [c] l):Cy 146 [c,(.string name)] w (Val w (iv (BN l name))):=by
 have p:=rM a;refine enter 20 Tryz.func146 Y Y Y (Sr (Pe Y (Cq (Sr (Pe Y (Cb (Cl (λm_ ac w'=>∃(i:Nat),(i<=l.length)/\(∀j,j<i->∀q,l[j]?=some q->q.Name≠name)/\m_=l.length-i/\Fits ac 20 [(0,c),(1,(.string name)),(5,(nv i))]/\St w ([]) w') ?_ ?_)))))))
 ·refine λac w' hf hs=>⟨_,0,?_,?_,Y,hf.wk Y,hs⟩
  ·omega
  ·intro j hj;omega
 ·rintro m_ ac w' ⟨i,hi,hfn,rfl,hf,hs⟩;refine D.use ?_ hf hs;clear hf hs ac w';refine Cq (Sr (P2 Y Y (dl HD Y (AE a) (Pe Y (Cd Y (λf=>?_) (λf=>?_))))))
  ·refine Sk (Cq (Cb (Sr (P2 Y Y ?_))));obtain⟨r,b⟩:=sI l i;obtain⟨s,at4,g⟩:=AC (n:=4) rfl a b;obtain⟨t,u,rfl,k,d⟩:=BC g;have m:=rM k;have o:=rM d;refine q1 Y (AJ (l:=l) (j:=i) HD Y Y Y (λw' hs=>(rA hs a)) Y (lS b)) (q1 Y (B2 JK Y Y) (q1 Y (lr BK Y Y at4 Y) (p1 Y (q1 Y (DO Y Y Y) (Dx (Cd Y (λe=>?_) (λe=>?_)))))))
   ·refine Sr (P2 Y Y (Dx (Ct (Xq (Xr (Xr (Xq (Xr (Ri Y Y ?_)))))))));show(((i:Nat):Int):Int)=_;exact qZ b ‹_› hfn
   ·refine Ck (Xb (Xt (Cr (p1 Y (ad (i+1) Y (Pe Y (λac w' hf hs=>⟨_,?_,i+1,?_,?_,Y,hf.wk Y,hs⟩)))))))
    ·omega
    ·omega
    ·refine AF hfn ?_;intro y hy;obtain rfl:y=r:=Option.some.inj (hy.symm.trans b);assumption
  ·refine Cx (Xx (Xx (Xe (Xt (Sr (Pe Y (Ct (Ri Y Y ?_))))))));show((-1):Int)=_;exact rB (λj h=>hfn j (by omega))
set_option maxHeartbeats 4000000 in
theorem cH{w:World}{a1:List Value}{r:Rule}(s:Gd.rd w a1 r)(hn:BG r<=1048576):Cy 159 [(.agg a1.toArray)] w (Val w (.bool (CR r))):=by
 obtain⟨u1,u3,rfl,c,e⟩:=BC s;have az:=rM c;have b0:=rM e;have x:=hn;unfold BG DD at hn;have hcl:=ZA r.If r.If.length;refine enter 111 Tryz.func159 Y Y Y (Sr (bX Y λg7=>?_));refine Pe Y (Dh ([bx g7 [(.string r.Name),(iv r.Priority),u1,u3]]) Y (Cq (Sr (fl 0 JK BK Y (qv M0 Y (λw' hs=>EA) (P2 Y Y (JQ 14 Y Y (λam=>?_) (λam=>?_))))))))
 ·refine n1 Y (n1 Y (n1 Y (P2 Y Y (n1 Y (n1 Y (n1 Y (P2 Y Y (n1 Y (n1 Y (n1 Y (n1 Y (P2 Y Y (n1 Y (n1 Y (n1 Y (n1 Y (P2 Y Y (n1 Y (n1 Y (n1 Y (n1 Y (P2 Y Y (n1 Y ?_)))))))))))))))))))))));refine n1 Y (n1 Y (n1 Y (Pe Y (AH [1,47] Y (GF Y (Sr (Pe Y (Ct (Xr (Rb Y Y ?_))))))))));exact NI (.inl ‹_›)
 ·refine fl 0 L4 CJ Y (P3 Y Y Y (EY 19 Y Y (λan=>?_) (λan=>?_)))
  ·refine n1 Y (n1 Y (n1 Y (P2 Y Y (n1 Y (n1 Y (n1 Y (n1 Y (P2 Y Y (n1 Y (n1 Y (n1 Y (n1 Y (P2 Y Y (n1 Y (n1 Y (n1 Y (n1 Y (P2 Y Y (n1 Y (n1 Y (n1 Y (n1 Y (p1 Y ?_)))))))))))))))))))))));refine Dx (AH [1,47] Y (GF Y (Sr (Pe Y (Ct (Xr (Rb Y Y ?_)))))));exact NI (.inr (.inl (by unfold GO;simp;omega)))
  ·refine fl 0 L4 CJ Y (P3 Y Y Y (EY 24 Y Y (λa2=>?_) (λa2=>?_)))
   ·refine n1 Y (n1 Y (n1 Y (n1 Y (P2 Y Y (n1 Y (n1 Y (n1 Y (n1 Y (P2 Y Y (n1 Y (n1 Y (n1 Y (n1 Y (P2 Y Y (n1 Y (n1 Y (n1 Y (n1 Y (Pe Y (AH [1,47] Y (GF Y ?_)))))))))))))))))))));refine Sr (Pe Y (Ct (Xr (Rb Y Y ?_))));exact NI (.inr (.inl (by unfold GO;simp;omega)))
   ·refine fl 0 CO GN Y (dl D6 Y (AE c) (P3 Y Y Y (EY 30 Y Y (λa3=>?_) (λa3=>?_))))
    ·refine n1 Y (n1 Y (n1 Y (n1 Y (P2 Y Y (n1 Y (n1 Y (n1 Y (n1 Y (P2 Y Y (n1 Y (n1 Y (n1 Y (n1 Y (Pe Y (AH [1,47] Y (GF Y (Sr (Pe Y ?_))))))))))))))))));refine Ct (Xr (Rb Y Y ?_));exact NI (.inr (.inr (.inl (by unfold GO;simp;omega))))
    ·refine fl 0 CO GN Y (dl D6 Y (AE c) (P3 Y Y Y (EY 36 Y Y (λa4=>?_) (λa4=>?_))))
     ·refine n1 Y (n1 Y (n1 Y (n1 Y (P2 Y Y (n1 Y (n1 Y (n1 Y (n1 Y (Pe Y (AH [1,47] Y (GF Y (Sr (Pe Y (Ct (Xr (Rb Y Y ?_))))))))))))))));exact NI (.inr (.inr (.inl (by unfold GO;simp;omega))))
     ·refine fl 0 HB PD Y (dl JJ Y (AE e) (P3 Y Y Y (EY 42 Y Y (λa5=>?_) (λa5=>?_))))
      ·refine n1 Y (n1 Y (n1 Y (n1 Y (Pe Y (AH [1,47] Y (GF Y (Sr (Pe Y (Ct (Xr (Rb Y Y ?_)))))))))));exact NI (.inr (.inr (.inr (by unfold GO;simp;omega))))
      ·refine fl 0 HB PD Y (dl JJ Y (AE e) (P2 Y Y (Dx (AH [1,47] Y (Cd Y (λa6=>?_) (λa6=>?_))))))
       ·refine Sr (Pe Y (Ct (Xr (Rb Y Y ?_))));exact NI (.inr (.inr (.inr (by unfold GO;simp;omega))))
       ·refine Sk (Cq (Sr (fl 0 CO GN Y (dl D6 Y (AE c) (Pe Y (Cb (Cl (λm_ ac w'=>∃(k:Nat),(k<=r.If.length)/\(∀i,i<k->GP r i=true)/\m_=r.If.length-k/\Fits ac 111 [(1,(pv g7)),(49,u1),(50,(nv r.If.length)),(51,(nv k))]/\St w ([bx g7 [(.string r.Name),(iv r.Priority),u1,u3]]) w') ?_ ?_)))))))
        ·refine λac w' hf hs=>⟨_,0,?_,?_,Y,hf.wk Y,hs⟩
         ·omega
         ·intro i hi;omega
        ·rintro m_ ac w' ⟨k,hk,hc,rfl,hf,hs⟩;refine D.use ?_ hf hs;clear hf hs ac w';refine Sr (Pe Y (Cq (Cd Y (λa7=>?_) (λa7=>?_))))
         ·refine Sk (Cq (Cb (Sr (p1 Y ?_))));obtain⟨d,b⟩:=sI r.If k;have hcz:=IX b;have hca:=BX d;have hvl:=C1 d.Pattern.Args;have hsl:=BO (AM d.Pattern.Args);have ao:=EF d;have hscl:=BO (A6 d);obtain⟨ap,a8,g⟩:=AC (n:=5) rfl c b;obtain⟨z,rfl,v⟩:=A8 g;have aq:=rM v;have ar:=AK g;refine q1 Y (AJ (l:=r.If) (j:=k) D6 Y Y Y (λw' hs=>(rA hs c)) Y (lS b)) (q1 Y (EX D4 Y Y a8) (aL MN Y λg23=>?_));refine p1 Y (li Y (AZ (vs:=[(iv d.Kind),(.string d.Pattern.Rel),z,(.string d.Left),(.string d.Right)]) (cs':=[(iv d.Kind),(.string d.Pattern.Rel),z,(.string d.Left),(.string d.Right)]) 0 M3 Y Y Y Y Y Y (AB Y (AB Y (AB (A2 v) (AB Y (AB Y BR))))) (by simp) Y ?_));refine Dx (Dh ([bx g23 [(iv d.Kind),(.string d.Pattern.Rel),z,(.string d.Left),(.string d.Right)],_]) Y (Sr (q1 Y (C9 0 D4 Y Y Y) (qv pT Y (λw' hs=>(NJ (rA hs g))) (P2 Y Y (JQ 59 Y Y (λa9=>?_) (λa9=>?_)))))))
          ·refine n1 Y (n1 Y (n1 Y (n1 Y (n1 Y (n1 Y (n1 Y (P2 Y Y (n1 Y (n1 Y (n1 Y (n1 Y (Pe Y (AH [1,49,50,51,73] Y (AG [1] Y (GF Y (Sr (Pe Y (Ct ?_))))))))))))))))));refine Xq (Xr (Xr (Xq (Xr (Rb Y Y ?_)))));exact QF (k:=k) (lS b) (by exact W8 b ‹_›)
          ·refine P3 Y Y Y (oV 62 Y Y (λaa=>?_) (λaa=>?_))
           ·refine fl 0 C0 CJ Y (P3 Y Y Y (p1 Y (gxn 68 Y Y (λab=>?_) (λab=>?_))))
            ·refine n1 Y (n1 Y (n1 Y (n1 Y (Pe Y (AH [1,49,50,51,73] Y (AG [1] Y (GF Y (Sr (Pe Y (Ct (Xq (Xr (Xr (Xq (Xr (Rb Y Y ?_))))))))))))))));exact QF (k:=k) (lS b) (by exact W9 b (by omega) (by omega))
            ·refine q1 Y (C9 1 I7 Y Y Y) (p1 Y (qv A0C Y (λw' hs=>(OR (rA hs s) x (by omega) ‹_›)) (P2 Y Y (Dx (AH [1,49,50,51,73] Y (AG [1] Y (CN Y (λae=>?_) (λae=>?_))))))))
             ·refine Sr (Pe Y (Ct (Xq (Xr (Xr (Xq (Xr (Rb Y Y ?_))))))));exact QF (k:=k) (lS b) (by exact RB b ‹_›)
             ·refine Ck (Xb (Xt (Cr (ad (k+1) Y (Pe Y (λac w' hf hs=>⟨_,?_,k+1,?_,?_,Y,hf.wk Y,hs⟩))))))
              ·omega
              ·omega
              ·refine AF hc ?_;exact T9 b ‹_› (by omega) ‹_›
           ·refine n1 Y (n1 Y (n1 Y (P3 Y Y Y (q1 Y (C9 1 I7 Y Y Y) (p1 Y (qv A0C Y (λw' hs=>(OR (rA hs s) x (by omega) ‹_›)) (P2 Y Y (Dx (AH [1,49,50,51,73] Y (AG [1] Y (CN Y (λaf=>?_) (λaf=>?_))))))))))))
            ·refine Sr (Pe Y (Ct (Xq (Xr (Xr (Xq (Xr (Rb Y Y ?_))))))));exact QF (k:=k) (lS b) (by exact RB b ‹_›)
            ·refine Ck (Xb (Xt (Cr (ad (k+1) Y (Pe Y (λac w' hf hs=>⟨_,?_,k+1,?_,?_,Y,hf.wk Y,hs⟩))))))
             ·omega
             ·omega
             ·refine AF hc ?_;exact T9 b ‹_› (by omega) ‹_›
         ·refine Cx (Xx (Xx (Xe (Xt (Sr (q1 Y (C9 0 I7 Y Y Y) (fl 0 CO GN Y (dl D6 Y (AE c) (ql A0B Y (λw' hs=>(NM (rA hs s) x)) λv29=>?_)))))))));refine Pe Y (Dh ([ov [v29] (AD (DR r ((r.If.length:Nat):Int)):(List ByteArray)),_]) Y (Cq (Sr (fl 1 HB PD Y (dl JJ Y (AE e) (Pe Y (Cb (Cl (λm_ ac w'=>∃(j:Nat),(j<=r.Then.length)/\(∀i,i<j->∀a,r.Then[i]?=some a->IG r a=true)/\m_=r.Then.length-j/\Fits ac 111 [(1,(pv g7)),(5,v29),(81,u3),(82,(nv r.Then.length)),(83,(nv j))]/\St w ([ov [v29] (AD (DR r ((r.If.length:Nat):Int)):(List ByteArray)),bx g7 [(.string r.Name),(iv r.Priority),u1,u3]]) w') ?_ ?_))))))))
          ·refine λac w' hf hs=>⟨_,0,?_,?_,Y,hf.wk Y,hs⟩
           ·omega
           ·intro i hi;omega
          ·rintro m_ ac w' ⟨j,hj,ha,rfl,hf,hs⟩;refine D.use ?_ hf hs;clear hf hs ac w';refine Sr (Pe Y (Cq (Cd Y (λag=>?_) (λag=>?_))))
           ·refine Sk (Cq (Cb (Sr ?_)));obtain⟨a0,f⟩:=sI r.Then j;have haz:=ZD f;have haa:=J7 a0;have au:=C1 a0.Pattern.Args;have av:=BO (AM a0.Pattern.Args);obtain⟨aw,ah,m⟩:=AC (n:=3) rfl e f;obtain⟨t,rfl,o⟩:=CH m;have ax:=rM o;have ay:=A9 m;refine q1 Y (AJ (l:=r.Then) (j:=j) JJ Y Y Y (λw' hs=>(rA hs e)) Y (lS f)) (q1 Y (EX aX Y Y ah) (aL pD Y λai=>?_));refine li Y (AZ (vs:=[(iv a0.Kind),(.string a0.Pattern.Rel),t]) (cs':=[(iv a0.Kind),(.string a0.Pattern.Rel),t]) 0 vY Y Y Y Y Y Y (AB Y (AB Y (AB (A2 o) BR))) (by simp) Y ?_);refine Dx (Dh ([bx ai [(iv a0.Kind),(.string a0.Pattern.Rel),t],_,_]) Y (Cq (Sr (q1 Y (C9 0 aX Y Y Y) (qv A3f Y (λw' hs=>(V7 (rA hs m))) (Pe Y (CN Y (λaj=>?_) (λaj=>?_))))))))
            ·refine Sr (Pe Y (Ct (Xr (Xq (Xr (Xr (Xq (Xr (Rb Y Y ?_)))))))));exact jN f (by exact cF ‹_›)
            ·refine Sk (Sr (q1 Y (Db GM Y Y (q:=1) Y) (fl 0 C4 B5 Y (ql pP Y (λw' hs=>(KA (rA hs o) (by omega))) λv40=>?_))));refine q1 Y (B7 0 AU Y Y Y) (Pe Y (Dh ([ov [v40] (AM a0.Pattern.Args:(List ByteArray)),_,_,_]) Y (Cb (Cl (λm_ ac w'=>∃(p:Nat),(p<=(AM a0.Pattern.Args).length)/\(∀i,i<p->∀y,(AM a0.Pattern.Args)[i]?=some y->H1 (AD (DR r (r.If.length:Int))) y=true)/\m_=(AM a0.Pattern.Args).length-p/\Fits ac 111 [(1,(pv g7)),(5,v29),(81,u3),(82,(nv r.Then.length)),(83,(nv j)),(93,v40),(94,(nv ((AM a0.Pattern.Args).length))),(95,(nv p))]/\St w ([ov [v40] (AM a0.Pattern.Args:(List ByteArray)),bx ai [(iv a0.Kind),(.string a0.Pattern.Rel),t],ov [v29] (AD (DR r ((r.If.length:Nat):Int)):(List ByteArray)),bx g7 [(.string r.Name),(iv r.Priority),u1,u3]]) w') ?_ ?_))))
             ·refine λac w' hf hs=>⟨_,0,?_,?_,Y,hf.wk Y,hs⟩
              ·omega
              ·intro i hi;omega
             ·rintro m_ ac w' ⟨p,hpk,hp,rfl,hf,hs⟩;refine D.use ?_ hf hs;clear hf hs ac w';refine Sr (Pe Y (Cq (Cd Y (λak=>?_) (λak=>?_))))
              ·refine Sk (Cq (Cb (Sr ?_)));obtain⟨w0_,u⟩:=sI (AM a0.Pattern.Args) p;refine q1 Y (AJ (l:=(AM a0.Pattern.Args)) (j:=p) AU Y Y Y (λw' hs=>(rO (k:=0) hs Y)) Y (lS u)) (q1 Y (lo (α:=ByteArray) 0 BK Y Y Y u) (Pe Y (Sr (P2 Y Y (qv iV Y (λw' hs=>(JW (rO (k:=2) hs Y))) (Pe Y (CN Y (λal=>?_) (λal=>?_))))))))
               ·refine Sr (Pe Y (Ct (Xq (Xr (Xr (Xq (Xq (Xr (Xr (Xq (Xr (Rb Y Y ?_))))))))))));exact jN f (by exact cG u ‹_›)
               ·refine Ck (Xb (Xt (Cr (ad (p+1) Y (Pe Y (λac w' hf hs=>⟨_,?_,p+1,?_,?_,Y,hf.wk Y,hs⟩))))))
                ·omega
                ·omega
                ·refine AF hp ?_;intro y hy;obtain rfl:y=w0_:=Option.some.inj (hy.symm.trans u);assumption
              ·refine Cx (Xx (Xx (Xe (Xb (Xt (Cr (ad (j+1) Y (Pe Y (λac w' hf hs=>⟨_,?_,j+1,?_,?_,Y,hf.wk Y,hs.pk [2,3] Y Y⟩)))))))))
               ·omega
               ·omega
               ·refine AF ha ?_;intro y hy;obtain rfl:y=a0:=Option.some.inj (hy.symm.trans f);exact wV ‹_› (λi h=>hp i (by omega))
           ·refine Cx (Xx (Xx (Xe (Xt (Sr (fl 1 CO GN Y (ql A3g Y (λw' hs=>(SR (rA hs c) (by unfold DD;omega))) λv43=>?_)))))));refine ql pR Y (λw' hs=>(IQ (rO (k:=0) hs Y) (by omega))) λv44=>?_
            refine q1 Y (B7 0 AU Y Y Y) (P2 Y Y (Dx (Ct (Rb Y Y ?_))));show((decide (((((AD (aG r.If r.If.length)).length:Nat):Int):Int)<=6)):Bool)=_;refine A5O ‹_› (by unfold GO;simp;omega) (by unfold GO;simp;omega) (by unfold GO;simp;omega) (λi h=>hc i (by omega)) (λi h=>ha i (by omega)) ?_;rw[A5N];rfl
set_option maxHeartbeats 4000000 in
theorem SK{w:World}{a4:List Value}{r:Rule}(o:Gd.rd w a4 r)(hn:BG r<=1048576)(ho:H9 r):Cy 145 [(.agg a4.toArray)] w (Val w (.bool (CR r))):=by
 obtain⟨u1,u3,rfl,s,t⟩:=BC o;have b4:=rM s;have b5:=rM t;have u:=hn;unfold BG DD at hn;have hcl:=ZA r.If r.If.length;refine enter 145 Tryz.func145 Y Y Y (Sr (bX Y λg7=>?_));refine Pe Y (Dh ([bx g7 [(.string r.Name),(iv r.Priority),u1,u3]]) Y (Cq (Sr (fl 0 JK BK Y (qv M1 Y (λw' hs=>(EB ho.1)) (P2 Y Y (JQ 17 Y Y (λap=>?_) (λap=>?_))))))))
 ·refine n1 Y (n1 Y (n1 Y (n1 Y (P2 Y Y (n1 Y (n1 Y (n1 Y (n1 Y (n1 Y (P2 Y Y (n1 Y (n1 Y (n1 Y (n1 Y (n1 Y (Pe Y (AH [1,36] Y (GF Y (Sr (p1 Y ?_))))))))))))))))))));refine Dx (Ct (Xr (Rb Y Y ?_)));exact NI (.inl ‹_›)
 ·refine fl 0 L4 CJ Y (qv SP Y (λw' hs=>E7) (P3 Y Y Y (JQ 23 Y Y (λaq=>?_) (λaq=>?_))))
  ·refine n1 Y (n1 Y (n1 Y (n1 Y (n1 Y (P2 Y Y (n1 Y (n1 Y (n1 Y (n1 Y (n1 Y (Pe Y (AH [1,36] Y (GF Y (Sr (Pe Y (Ct (Xr (Rb Y Y ?_))))))))))))))))));exact NI (.inr (.inl ‹_›))
  ·refine fl 0 CO GN Y (dl D6 Y (AE s) (qv SP Y (λw' hs=>E7) (P3 Y Y Y (JQ 30 Y Y (λa5=>?_) (λa5=>?_)))))
   ·refine n1 Y (n1 Y (n1 Y (n1 Y (n1 Y (Pe Y (AH [1,36] Y (GF Y (Sr (Pe Y (Ct (Xr (Rb Y Y ?_))))))))))));exact NI (.inr (.inr (.inl ‹_›)))
   ·refine fl 0 HB PD Y (dl JJ Y (AE t) (qv SP Y (λw' hs=>E7) (P2 Y Y (Dx (AH [1,36] Y (CN Y (λa6=>?_) (λa6=>?_)))))))
    ·refine Sr (Pe Y (Ct (Xr (Rb Y Y ?_))));exact NI (.inr (.inr (.inr ‹_›)))
    ·refine Sk (Sr (q1 Y (C9 0 I7 Y Y Y) (fl 0 CO GN Y (dl D6 Y (AE s) (ql pU Y (λw' hs=>(KC (rA hs o) u ho)) λv12=>?_)))));refine Pe Y (Dh ([ov [v12] (AD (DR r ((r.If.length:Nat):Int)):(List ByteArray)),_]) Y (Cq (Sr (Pe Y (Cb (Cl (λm_ ac w'=>∃(k:Nat),(k<=r.If.length)/\(∀i,i<k->GP r i=true)/\m_=r.If.length-k/\Fits ac 145 [(1,(pv g7)),(3,v12),(4,(nv k))]/\St w ([ov [v12] (AD (DR r ((r.If.length:Nat):Int)):(List ByteArray)),bx g7 [(.string r.Name),(iv r.Priority),u1,u3]]) w') ?_ ?_))))))
     ·refine λac w' hf hs=>⟨_,0,?_,?_,Y,hf.wk Y,hs⟩
      ·omega
      ·intro i hi;omega
     ·rintro m_ ac w' ⟨k,hk,hc,rfl,hf,hs⟩;refine D.use ?_ hf hs;clear hf hs ac w';refine Cq (Sr (p1 Y (fl 1 CO GN Y (dl D6 Y (AE s) (Pe Y (Cd Y (λa7=>?_) (λa7=>?_)))))))
      ·refine Sk (Cq (Cb (Sr (fl 1 CO GN Y (p1 Y ?_)))));obtain⟨b,d⟩:=sI r.If k;have hcz:=IX d;have hca:=BX b;have hvl:=C1 b.Pattern.Args;have hsl:=BO (AM b.Pattern.Args);have aw:=EF b;have hscl:=BO (A6 b);have hco:=ho.2.2.1 _ (List.mem_of_getElem? d);obtain⟨ax,a8,e⟩:=AC (n:=5) rfl s d;obtain⟨v,rfl,a1⟩:=A8 e;have ay:=rM a1;have az:=AK e;refine q1 Y (AJ (l:=r.If) (j:=k) D6 Y Y Y (λw' hs=>(rA hs s)) Y (lS d)) (q1 Y (EX D4 Y Y a8) (aL MN Y λg21=>?_));refine li Y (AZ (vs:=[(iv b.Kind),(.string b.Pattern.Rel),v,(.string b.Left),(.string b.Right)]) (cs':=[(iv b.Kind),(.string b.Pattern.Rel),v,(.string b.Left),(.string b.Right)]) 0 M3 Y Y Y Y Y Y (AB Y (AB Y (AB (A2 a1) (AB Y (AB Y BR))))) (by simp) Y ?_);refine Dx (Dh ([bx g21 [(iv b.Kind),(.string b.Pattern.Rel),v,(.string b.Left),(.string b.Right)],_,_]) Y (Cq (Sr (q1 Y (C9 0 D4 Y Y Y) (qv pM Y (λw' hs=>(NK (rA hs e) hco)) (P2 Y Y (JQ 57 Y Y (λa9=>?_) (λa9=>?_))))))))
       ·refine n1 Y (n1 Y (n1 Y (n1 Y (n1 Y (n1 Y (n1 Y (Pe Y (AH [1,3,4,5,65] Y (GF Y (Sr (Pe Y (Ct (Xr (Xq (Xr (Xr (Xq (Xr ?_))))))))))))))))));refine Rb Y Y ?_;exact QF (k:=k) (lS d) (by exact W8 d ‹_›)
       ·refine P3 Y Y Y (oV 60 Y Y (λaa=>?_) (λaa=>?_))
        ·refine fl 0 C0 CJ Y (P3 Y Y Y (Dx (AH [1,3,4,5,65] Y (Cn Y (λg=>?_) (λg=>?_)))))
         ·refine Sr (Pe Y (Ct (Xr (Xq (Xr (Xr (Xq (Xr (Rb Y Y ?_)))))))));exact QF (k:=k) (lS d) (by exact W9 d (by omega) (by omega))
         ·refine Sk (Sr (q1 Y (C9 2 I7 Y Y Y) (p1 Y (ql pU Y (λw' hs=>(KC (rA hs o) u ho)) λv25=>?_))));refine Pe Y (Dh ([ov [v25] (AD (DR r ((k:Nat):Int)):(List ByteArray)),_,_,_]) Y (Sr (q1 Y (C9 1 D4 Y Y Y) (ql iW Y (λw' hs=>(IY (rA hs e) (by omega) hco)) λv26=>?_))));refine Pe Y (Dh ([ov [v26] (AD (A6 b):(List ByteArray)),_,_,_,_]) Y (Sr (Pe Y (Cb (Cl (λm_ ac w'=>∃(q:Nat),(q<=(AD (A6 b)).length)/\(∀i,i<q->∀y,(AD (A6 b))[i]?=some y->okV r (k:Int) b y=true)/\m_=(AD (A6 b)).length-q/\Fits ac 145 [(1,(pv g7)),(3,v12),(4,(nv k)),(5,(pv g21)),(6,v25),(7,v26),(8,(nv q))]/\St w ([ov [v26] (AD (A6 b):(List ByteArray)),ov [v25] (AD (DR r ((k:Nat):Int)):(List ByteArray)),bx g21 [(iv b.Kind),(.string b.Pattern.Rel),v,(.string b.Left),(.string b.Right)],ov [v12] (AD (DR r ((r.If.length:Nat):Int)):(List ByteArray)),bx g7 [(.string r.Name),(iv r.Priority),u1,u3]]) w') ?_ ?_)))))
          ·refine λac w' hf hs=>⟨_,0,?_,?_,Y,hf.wk Y,hs⟩
           ·omega
           ·intro i hi;omega
          ·rintro m_ ac w' ⟨q,hq,hok,rfl,hf,hs⟩;refine D.use ?_ hf hs;clear hf hs ac w';refine Cq (Sr (P2 Y Y (q1 Y (B7 0 AU Y Y Y) (Pe Y (Cd Y (λab=>?_) (λab=>?_))))))
           ·refine Sk (Cq (Cb (Sr (P3 Y Y Y ?_))));obtain⟨v0,c⟩:=sI (AD (A6 b)) q;refine q1 Y (AJ (l:=(AD (A6 b))) (j:=q) AU Y Y Y (λw' hs=>(rO (k:=0) hs Y)) Y (lS c)) (q1 Y (lo (α:=ByteArray) 0 BK Y Y Y c) (qv bD Y (λw' hs=>(GW (rO (k:=1) hs Y))) (Pe Y (Cq (A0 mixed [1,2,3,4,5,6,7,8,9,10,11,12,13,14,21,22,23] (by kernel_rfl) (Tk 0 Y Y (C9 2 D4 Y Y Y) (ty 1 Y Y (cv pV Y Y Y Y (λw' hs=>(NL (rA hs e) hco)) ?_))))))));refine tZ Y (tW 2 Y Y Y (gs 85 Y Y (λar=>?_) (λar=>?_)))
            ·refine tW 3 Y Y Y (tW 4 Y Y Y (tW 5 Y Y Y (tW 6 Y Y Y (JQ 89 Y Y (λae=>?_) (λae=>?_)))))
             ·refine tK 1 [7,8,9,10,11,12,13,14,15,16,17,18,19,20,21,22] Y (tW 23 Y Y Y (tE (Xt (AH [1,3,4,5,6,7,8,106] Y (GF Y (Sr (p1 Y ?_)))))));refine Dx (Ct (Xq (Xr (Xr (Xq (Xq (Xr (Xr (Xq (Xr (Rb Y Y ?_)))))))))));exact QF (k:=k) (lS d) (by exact PM d c (rJ ‹_› ‹_›))
             ·refine ty 7 Y Y (sv Y Y (Db C0 Y Y (q:=0) Y) ?_);refine tZ Y (ty 8 Y Y (sv Y Y (lb 2 CJ Y Y Y Y) ?_));refine tZ Y (tW 9 Y Y Y (tW 10 Y Y Y (gkf 93 Y Y (YI g Y) ?_)));have b6:((b.Kind:Int)==2)=false:=(YI g rfl);refine tK 11 [11,12] Y (tW 13 Y Y Y (tW 14 Y Y Y (tK 2 [15,16,17,18,19,20,21] Y (tW 22 Y Y Y (tW 23 Y Y Y (tE (Xt (AH [1,3,4,5,6,7,8,106] Y (G7 Y (Ck (Xb (Xt (Cr (p1 Y (ad (q+1) Y (p1 Y ?_))))))))))))))));refine Dx (λac w' hf hs=>⟨_,?_,q+1,?_,?_,Y,hf.wk Y,hs⟩)
              ·omega
              ·omega
              ·refine AF hok ?_;intro y hy;obtain rfl:y=v0:=Option.some.inj (hy.symm.trans c);exact T8 ‹_›
            ·refine tK 19 [3,4] Y (tW 5 Y Y Y (tW 6 Y Y Y (ty 7 Y Y (sv Y Y (Db C0 Y Y (q:=0) Y) ?_))));refine tZ Y (ty 8 Y Y (sv Y Y (lb 2 CJ Y Y Y Y) ?_));refine tZ Y (tW 9 Y Y Y (tW 10 Y Y Y (gkf 93 Y Y (YI g Y) ?_)));have b7:((b.Kind:Int)==2)=false:=(YI g rfl);refine tK 11 [11,12] Y (tW 13 Y Y Y (tW 14 Y Y Y (tK 2 [15,16,17,18,19,20,21] Y (tW 22 Y Y Y (tW 23 Y Y Y (tE (Xt (AH [1,3,4,5,6,7,8,106] Y (G7 Y (Ck (Xb (Xt (Cr (p1 Y (ad (q+1) Y (p1 Y ?_))))))))))))))));refine Dx (λac w' hf hs=>⟨_,?_,q+1,?_,?_,Y,hf.wk Y,hs⟩)
             ·omega
             ·omega
             ·refine AF hok ?_;intro y hy;obtain rfl:y=v0:=Option.some.inj (hy.symm.trans c);exact fX ‹_› ‹_› (.inl (by omega))
           ·refine Cx (Xx (Xx (Xe (Xb (Xt (Cr (p1 Y (ad (k+1) Y (Pe Y (λac w' hf hs=>⟨_,?_,k+1,?_,?_,Y,hf.wk Y,hs.pk [3,4] Y Y⟩))))))))))
            ·omega
            ·omega
            ·refine AF hc ?_;exact W7 d ‹_› (by omega) (λi h=>hok i (by omega))
        ·refine n1 Y (n1 Y (n1 Y (P2 Y Y (Dx (AH [1,3,4,5,65] Y (G7 Y (Sk (Sr (q1 Y (C9 2 I7 Y Y Y) (p1 Y (ql pU Y (λw' hs=>(KC (rA hs o) u ho)) λv36=>?_)))))))))));refine Pe Y (Dh ([ov [v36] (AD (DR r ((k:Nat):Int)):(List ByteArray)),_,_,_]) Y (Sr (q1 Y (C9 1 D4 Y Y Y) (ql iW Y (λw' hs=>(IY (rA hs e) (by omega) hco)) λv37=>?_))));refine Pe Y (Dh ([ov [v37] (AD (A6 b):(List ByteArray)),_,_,_,_]) Y (Sr (Pe Y (Cb (Cl (λm_ ac w'=>∃(q:Nat),(q<=(AD (A6 b)).length)/\(∀i,i<q->∀y,(AD (A6 b))[i]?=some y->okV r (k:Int) b y=true)/\m_=(AD (A6 b)).length-q/\Fits ac 145 [(1,(pv g7)),(3,v12),(4,(nv k)),(5,(pv g21)),(6,v36),(7,v37),(8,(nv q))]/\St w ([ov [v37] (AD (A6 b):(List ByteArray)),ov [v36] (AD (DR r ((k:Nat):Int)):(List ByteArray)),bx g21 [(iv b.Kind),(.string b.Pattern.Rel),v,(.string b.Left),(.string b.Right)],ov [v12] (AD (DR r ((r.If.length:Nat):Int)):(List ByteArray)),bx g7 [(.string r.Name),(iv r.Priority),u1,u3]]) w') ?_ ?_)))))
         ·refine λac w' hf hs=>⟨_,0,?_,?_,Y,hf.wk Y,hs⟩
          ·omega
          ·intro i hi;omega
         ·rintro m_ ac w' ⟨q,hq,hok,rfl,hf,hs⟩;refine D.use ?_ hf hs;clear hf hs ac w';refine Cq (Sr (P2 Y Y (q1 Y (B7 0 AU Y Y Y) (Pe Y (Cd Y (λaf=>?_) (λaf=>?_))))))
          ·refine Sk (Cq (Cb (Sr (P3 Y Y Y ?_))));obtain⟨v0,c⟩:=sI (AD (A6 b)) q;refine q1 Y (AJ (l:=(AD (A6 b))) (j:=q) AU Y Y Y (λw' hs=>(rO (k:=0) hs Y)) Y (lS c)) (q1 Y (lo (α:=ByteArray) 0 BK Y Y Y c) (qv bD Y (λw' hs=>(GW (rO (k:=1) hs Y))) (Pe Y (Cq (A0 mixed [1,2,3,4,5,6,7,8,9,10,11,12,13,14,21,22,23] (by kernel_rfl) (Tk 0 Y Y (C9 2 D4 Y Y Y) (ty 1 Y Y (cv pV Y Y Y Y (λw' hs=>(NL (rA hs e) hco)) ?_))))))));refine tZ Y (tW 2 Y Y Y (gs 85 Y Y (λau=>?_) (λau=>?_)))
           ·refine tW 3 Y Y Y (tW 4 Y Y Y (tW 5 Y Y Y (tW 6 Y Y Y (JQ 89 Y Y (λa2=>?_) (λa2=>?_)))))
            ·refine tK 1 [7,8,9,10,11,12,13,14,15,16,17,18,19,20,21,22] Y (tW 23 Y Y Y (tE (Xt (AH [1,3,4,5,6,7,8,106] Y (GF Y (Sr (p1 Y ?_)))))));refine Dx (Ct (Xq (Xr (Xr (Xq (Xq (Xr (Xr (Xq (Xr (Rb Y Y ?_)))))))))));exact QF (k:=k) (lS d) (by exact PM d c (rJ ‹_› ‹_›))
            ·refine ty 7 Y Y (sv Y Y (Db C0 Y Y (q:=0) Y) ?_);refine tZ Y (ty 8 Y Y (sv Y Y (lb 2 CJ Y Y Y Y) ?_));refine tZ Y (tW 9 Y Y Y (tW 10 Y Y Y (oV 93 Y Y (λag=>?_) (λag=>?_))))
             ·refine tW 11 Y Y Y (tW 12 Y Y Y (tW 13 Y Y Y (tW 14 Y Y Y (gkf 97 Y Y (TI a2) (tK 2 [15,16,17,18,19,20,21] Y (tW 22 Y Y Y (tW 23 Y Y Y (tE (Xt (AH [1,3,4,5,6,7,8,106] Y (G7 Y (Ck (Xb (Xt (Cr (p1 Y (ad (q+1) Y ?_)))))))))))))))));refine Pe Y (λac w' hf hs=>⟨_,?_,q+1,?_,?_,Y,hf.wk Y,hs⟩)
              ·omega
              ·omega
              ·refine AF hok ?_;intro y hy;obtain rfl:y=v0:=Option.some.inj (hy.symm.trans c);exact T8 ‹_›
             ·refine tK 11 [11,12] Y (tW 13 Y Y Y (tW 14 Y Y Y (tK 2 [15,16,17,18,19,20,21] Y (tW 22 Y Y Y (tW 23 Y Y Y (tE (Xt (AH [1,3,4,5,6,7,8,106] Y (G7 Y (Ck (Xb (Xt (Cr (p1 Y (ad (q+1) Y (p1 Y ?_))))))))))))))));refine Dx (λac w' hf hs=>⟨_,?_,q+1,?_,?_,Y,hf.wk Y,hs⟩)
              ·omega
              ·omega
              ·refine AF hok ?_;intro y hy;obtain rfl:y=v0:=Option.some.inj (hy.symm.trans c);exact T8 ‹_›
           ·refine tK 19 [3,4] Y (tW 5 Y Y Y (tW 6 Y Y Y (ty 7 Y Y (sv Y Y (Db C0 Y Y (q:=0) Y) ?_))));refine tZ Y (ty 8 Y Y (sv Y Y (lb 2 CJ Y Y Y Y) ?_));refine tZ Y (tW 9 Y Y Y (tW 10 Y Y Y (oV 93 Y Y (λah=>?_) (λah=>?_))))
            ·refine tW 11 Y Y Y (tW 12 Y Y Y (tW 13 Y Y Y (tW 14 Y Y Y (JQ 97 Y Y (λai=>?_) (λai=>?_)))))
             ·refine Tk 15 Y Y (C9 4 I7 Y Y Y) (tK 5 [16,17,18] Y (Tk 19 Y Y (AJ (l:=(AD (A6 b))) (j:=q) AU Y Y Y (λw' hs=>(rO (k:=0) hs Y)) Y (lS c)) (Tk 20 Y Y (lo (α:=ByteArray) 0 BK Y Y Y c) (ty 21 Y Y (cv A3h Y Y Y Y (λw' hs=>(RE (rA hs o) u ho)) ?_)))));refine tZ Y (tW 22 Y Y Y (tW 23 Y Y Y (tE (Xt (AH [1,3,4,5,6,7,8,106] Y (Ci _ Y (λav=>?_) (λav=>?_)))))))
              ·refine Sr (Pe Y (Ct (Xq (Xr (Xr (Xq (Xq (Xr (Xr (Xq (Xr (Rb Y Y ?_))))))))))));exact QF (k:=k) (lS d) (by exact PM d c (jR (by omega) ‹_› (.inr ‹_›)))
              ·refine Ck (Xb (Xt (Cr (p1 Y (ad (q+1) Y (Pe Y (λac w' hf hs=>⟨_,?_,q+1,?_,?_,Y,hf.wk Y,hs⟩)))))))
               ·omega
               ·omega
               ·refine AF hok ?_;intro y hy;obtain rfl:y=v0:=Option.some.inj (hy.symm.trans c);exact fX ‹_› ‹_› (.inr ‹_›)
             ·refine tK 2 [15,16,17,18,19,20,21] Y (tW 22 Y Y Y (tW 23 Y Y Y (tE (Xt (AH [1,3,4,5,6,7,8,106] Y (G7 Y (Ck (Xb (Xt (Cr (p1 Y (ad (q+1) Y (Pe Y (λac w' hf hs=>⟨_,?_,q+1,?_,?_,Y,hf.wk Y,hs⟩))))))))))))))
              ·omega
              ·omega
              ·refine AF hok ?_;intro y hy;obtain rfl:y=v0:=Option.some.inj (hy.symm.trans c);exact T8 ‹_›
            ·refine tK 11 [11,12] Y (tW 13 Y Y Y (tW 14 Y Y Y (tK 2 [15,16,17,18,19,20,21] Y (tW 22 Y Y Y (tW 23 Y Y Y (tE (Xt (AH [1,3,4,5,6,7,8,106] Y (G7 Y (Ck (Xb (Xt (Cr (p1 Y (ad (q+1) Y (p1 Y ?_))))))))))))))));refine Dx (λac w' hf hs=>⟨_,?_,q+1,?_,?_,Y,hf.wk Y,hs⟩)
             ·omega
             ·omega
             ·refine AF hok ?_;intro y hy;obtain rfl:y=v0:=Option.some.inj (hy.symm.trans c);exact fX ‹_› ‹_› (.inl (by omega))
          ·refine Cx (Xx (Xx (Xe (Xb (Xt (Cr (p1 Y (ad (k+1) Y (Pe Y (λac w' hf hs=>⟨_,?_,k+1,?_,?_,Y,hf.wk Y,hs.pk [3,4] Y Y⟩))))))))))
           ·omega
           ·omega
           ·refine AF hc ?_;exact W7 d ‹_› (by omega) (λi h=>hok i (by omega))
      ·refine Cx (Xx (Xx (Xe (Xt (Cq (Sr (Pe Y (Cb (Cl (λm_ ac w'=>∃(j:Nat),(j<=r.Then.length)/\(∀i,i<j->∀a,r.Then[i]?=some a->IG r a=true)/\m_=r.Then.length-j/\Fits ac 145 [(1,(pv g7)),(3,v12),(10,(nv j))]/\St w ([ov [v12] (AD (DR r ((r.If.length:Nat):Int)):(List ByteArray)),bx g7 [(.string r.Name),(iv r.Priority),u1,u3]]) w') ?_ ?_)))))))))
       ·refine λac w' hf hs=>⟨_,0,?_,?_,Y,hf.wk Y,hs⟩
        ·omega
        ·intro i hi;omega
       ·rintro m_ ac w' ⟨j,hj,ha,rfl,hf,hs⟩;refine D.use ?_ hf hs;clear hf hs ac w';refine Cq (Sr (p1 Y (fl 1 HB PD Y (dl JJ Y (AE t) (Pe Y (Cd Y (λaj=>?_) (λaj=>?_)))))))
        ·refine Sk (Cq (Cb (Cq (Sr (fl 1 HB PD Y (p1 Y ?_))))));obtain⟨a0,m⟩:=sI r.Then j;have haz:=ZD m;have haa:=J7 a0;have b0:=C1 a0.Pattern.Args;have b1:=BO (AM a0.Pattern.Args);have hao:=ho.2.2.2 _ (List.mem_of_getElem? m);obtain⟨b2,a3,x⟩:=AC (n:=3) rfl t m;obtain⟨b8,rfl,ak⟩:=CH x;have b3:=rM ak;have al:=A9 x;refine q1 Y (AJ (l:=r.Then) (j:=j) JJ Y Y Y (λw' hs=>(rA hs t)) Y (lS m)) (q1 Y (EX aX Y Y a3) (qv A3i Y (λw' hs=>(V8 (rA hs x) hao)) (Pe Y (CN Y (λam=>?_) (λam=>?_)))))
         ·refine Sr (Pe Y (Ct (Xr (Xq (Xr (Xr (Xq (Xr (Rb Y Y ?_)))))))));exact jN m (by exact cF ‹_›)
         ·refine Sk (Sr (fl 1 HB PD Y (p1 Y (q1 Y (AJ (l:=r.Then) (j:=j) JJ Y Y Y (λw' hs=>(rA hs t)) Y (lS m)) (q1 Y (B2 GM Y Y) (q1 Y (EX HA Y Y (Q1 (f:=1) (n:=2) a3 Y)) (ql bC Y (λw' hs=>(I8 (rA hs al) (by omega) (by exact hao.2))) λv56=>?_)))))));refine Pe Y (AH [1,3,10,11] Y (Dh ([ov [v56] (AD (AM a0.Pattern.Args):(List ByteArray)),_,_]) Y (Sr (Pe Y (Cb (Cl (λm_ ac w'=>∃(p:Nat),(p<=(AD (AM a0.Pattern.Args)).length)/\(∀i,i<p->∀y,(AD (AM a0.Pattern.Args))[i]?=some y->H1 (AD (DR r (r.If.length:Int))) y=true)/\m_=(AD (AM a0.Pattern.Args)).length-p/\Fits ac 145 [(1,(pv g7)),(3,v12),(10,(nv j)),(11,v56),(12,(nv p))]/\St w ([ov [v56] (AD (AM a0.Pattern.Args):(List ByteArray)),ov [v12] (AD (DR r ((r.If.length:Nat):Int)):(List ByteArray)),bx g7 [(.string r.Name),(iv r.Priority),u1,u3]]) w') ?_ ?_))))))
          ·refine λac w' hf hs=>⟨_,0,?_,?_,Y,hf.wk Y,hs⟩
           ·omega
           ·intro i hi;omega
          ·rintro m_ ac w' ⟨p,hpk,hp,rfl,hf,hs⟩;refine D.use ?_ hf hs;clear hf hs ac w';refine Cq (Sr (P2 Y Y (q1 Y (B7 0 AU Y Y Y) (Pe Y (Cd Y (λan=>?_) (λan=>?_))))))
           ·refine Sk (Cq (Cb (Sr (P3 Y Y Y ?_))));obtain⟨w0_,z⟩:=sI (AD (AM a0.Pattern.Args)) p;refine q1 Y (AJ (l:=(AD (AM a0.Pattern.Args))) (j:=p) AU Y Y Y (λw' hs=>(rO (k:=0) hs Y)) Y (lS z)) (q1 Y (lo (α:=ByteArray) 0 BK Y Y Y z) (qv bD Y (λw' hs=>(GW (rO (k:=1) hs Y))) (Pe Y (CN Y (λao=>?_) (λao=>?_)))))
            ·refine Sr (Pe Y (Ct (Xq (Xr (Xr (Xq (Xq (Xr (Xr (Xq (Xr (Rb Y Y ?_))))))))))));exact jN m (by exact mI z ‹_›)
            ·refine Ck (Xb (Xt (Cr (p1 Y (ad (p+1) Y (Pe Y (λac w' hf hs=>⟨_,?_,p+1,?_,?_,Y,hf.wk Y,hs⟩)))))))
             ·omega
             ·omega
             ·refine AF hp ?_;intro y hy;obtain rfl:y=w0_:=Option.some.inj (hy.symm.trans z);assumption
           ·refine Cx (Xx (Xx (Xe (Xb (Xt (Cr (p1 Y (ad (j+1) Y (Pe Y (λac w' hf hs=>⟨_,?_,j+1,?_,?_,Y,hf.wk Y,hs.pk [1,2] Y Y⟩))))))))))
            ·omega
            ·omega
            ·refine AF ha ?_;intro y hy;obtain rfl:y=a0:=Option.some.inj (hy.symm.trans m);exact rL ‹_› (λi h=>hp i (by omega))
        ·refine Cx (Xx (Xx (Xe (Xt (Sr (q1 Y (C9 1 I7 Y Y Y) (ql A3j Y (λw' hs=>(V9 (rA hs o) u ho)) λv59=>?_)))))));refine q1 Y (B7 0 AU Y Y Y) (P2 Y Y (Dx (Ct (Rb Y Y ?_))));show((decide (((((AD (IB r++SJ r r.Then.length)).length:Nat):Int):Int)<=6)):Bool)=_;refine A5O ‹_› ‹_› ‹_› ‹_› (λi h=>hc i (by omega)) (λi h=>ha i (by omega)) ?_;exact A1n (λi h=>ha i (by omega))
theorem OS{w:World}{d:Value}{l:(List Rule)}(b:Gd.rd w [d] l)(x:DD BG l<=1048576):Cy 103 [d] w (Val w (.bool (AR l))):=by
 have y:=rM b;unfold DD at x;refine enter 27 Tryz.func103 Y Y Y (Sr (Pe Y (Cq (Sr (p1 Y (dl HD Y (AE b) (Pe Y (Cd Y (λp=>?_) (λp=>?_)))))))))
 ·refine Sr (Pe Y (Ct (Xr (Rb Y Y ?_))));exact A1l (by omega)
 ·refine Sk (Cq (Sr (p1 Y (dl HD Y (AE b) (Pe Y (Cb (Cl (λm_ ac w'=>∃(i:Nat),(i<=l.length)/\(∀j,j<i->JR l j=true)/\m_=l.length-i/\Fits ac 27 [(0,d),(8,d),(9,(nv l.length)),(10,(nv i))]/\St w ([]) w') ?_ ?_)))))))
  ·refine λac w' hf hs=>⟨_,0,?_,?_,Y,hf.wk Y,hs⟩
   ·omega
   ·intro j hj;omega
  ·rintro m_ ac w' ⟨i,hi,hr,rfl,hf,hs⟩;refine D.use ?_ hf hs;clear hf hs ac w';refine Sr (Pe Y (Cq (Cd Y (λq=>?_) (λq=>?_))))
   ·refine Sk (Cq (Cb (Sr (p1 Y ?_))));obtain⟨f,a⟩:=sI l i;have hqz:=C8 (c:=BG) (List.mem_of_getElem? a);obtain⟨z,r,g⟩:=AC (n:=4) rfl b a;obtain⟨s,t,rfl,k,e⟩:=BC g;have u:=rM k;have v:=rM e;refine q1 Y (AJ (l:=l) (j:=i) HD Y Y Y (λw' hs=>(rA hs b)) Y (lS a)) (q1 Y (EX I7 Y Y r) (aL lT Y λg13=>?_));refine p1 Y (li Y (AZ (vs:=[(.string f.Name),(iv f.Priority),s,t]) (cs':=[(.string f.Name),(iv f.Priority),s,t]) 0 pE Y Y Y Y Y Y (AB Y (AB Y (AB (A2 k) (AB (A2 e) BR)))) (by simp) Y ?_));refine Dx (Dh ([bx g13 [(.string f.Name),(iv f.Priority),s,t]]) Y (Sr (q1 Y (C9 0 I7 Y Y Y) (qv A3k Y (λw' hs=>(cH (rA hs g) (by omega))) (P2 Y Y (JQ 18 Y Y (λm=>?_) (λm=>?_)))))))
    ·refine n1 Y (n1 Y (n1 Y (n1 Y (n1 Y (n1 Y (Pe Y (AH [0,8,9,10,25] Y (AG [] Y (GF Y (Sr (Pe Y (Ct (Xq (Xr (Xr (Xq (Xr (Rb Y Y ?_))))))))))))))))));exact ZB (lS a) (bZ a ‹_›)
    ·refine p1 Y (fl 0 JK BK Y (qv pW Y (λw' hs=>(LD (rA hs b))) (P3 Y Y Y (Dx (AH [0,8,9,10,25] Y (AG [] Y (Cn Y (λo=>?_) (λo=>?_))))))))
     ·refine Sr (Pe Y (Ct (Xq (Xr (Xr (Xq (Xr (Rb Y Y ?_))))))));exact ZB (lS a) (cA a (by omega))
     ·refine Ck (Xb (Xt (Cr (ad (i+1) Y (Pe Y (λac w' hf hs=>⟨_,?_,i+1,?_,?_,Y,hf.wk Y,hs⟩))))))
      ·omega
      ·omega
      ·refine AF hr ?_;exact jM a ‹_› (by omega)
   ·refine Cx (Xx (Xx (Xe (Xt (Sr (Pe Y (Ct (Rb Y Y ?_))))))));exact A1q (by omega) (λj h=>hr j (by omega))
theorem LF{w:World}{d:Value}{l:(List Rule)}(b:Gd.rd w [d] l)(r:DD BG l<=1048576)(s:LR H9 l):Cy 88 [d] w (Val w (.bool (AR l))):=by
 have t:=rM b;unfold DD at r;refine enter 30 Tryz.func88 Y Y Y (Sr (Pe Y (Cq (Sr (Pe Y (Cb (Cl (λm_ ac w'=>∃(i:Nat),(i<=l.length)/\(∀j,j<i->JR l j=true)/\m_=l.length-i/\Fits ac 30 [(0,d),(3,(nv i))]/\St w ([]) w') ?_ ?_)))))))
 ·refine λac w' hf hs=>⟨_,0,?_,?_,Y,hf.wk Y,hs⟩
  ·omega
  ·intro j hj;omega
 ·rintro m_ ac w' ⟨i,hi,hr,rfl,hf,hs⟩;refine D.use ?_ hf hs;clear hf hs ac w';refine Cq (Sr (P2 Y Y (dl HD Y (AE b) (Pe Y (Cd Y (λm=>?_) (λm=>?_))))))
  ·refine Sk (Cq (Cb (Sr (P2 Y Y ?_))));obtain⟨v,a⟩:=sI l i;have hqz:=C8 (c:=BG) (List.mem_of_getElem? a);obtain⟨u,at4,e⟩:=AC (n:=4) rfl b a;obtain⟨x,y,rfl,o,f⟩:=BC e;have p:=rM o;have q:=rM f;refine q1 Y (AJ (l:=l) (j:=i) HD Y Y Y (λw' hs=>(rA hs b)) Y (lS a)) (q1 Y (EX I7 Y Y at4) (qv A0D Y (λw' hs=>(SK (rA hs e) (by omega) (s _ (List.mem_of_getElem? a)))) (P2 Y Y (JQ 16 Y Y (λg=>?_) (λg=>?_)))))
   ·refine n1 Y (n1 Y (n1 Y (n1 Y (n1 Y (n1 Y (n1 Y (n1 Y (n1 Y (Pe Y (AH [0,3,26] Y (GF Y (Sr (Pe Y (Ct (Xq (Xr (Xr (Xq ?_))))))))))))))))));refine Xr (Rb Y Y ?_);exact ZB (lS a) (bZ a ‹_›)
   ·refine P3 Y Y Y (q1 Y (AJ (l:=l) (j:=i) HD Y Y Y (λw' hs=>(rA hs b)) Y (lS a)) (q1 Y (B2 JK Y Y) (q1 Y (lr BK Y Y at4 Y) (qv pX Y (λw' hs=>(LE (rA hs b))) (P3 Y Y Y (Dx (AH [0,3,26] Y (Cn Y (λk=>?_) (λk=>?_)))))))))
    ·refine Sr (Pe Y (Ct (Xq (Xr (Xr (Xq (Xr (Rb Y Y ?_))))))));exact ZB (lS a) (cA a (by omega))
    ·refine Ck (Xb (Xt (Cr (p1 Y (ad (i+1) Y (Pe Y (λac w' hf hs=>⟨_,?_,i+1,?_,?_,Y,hf.wk Y,hs⟩)))))))
     ·omega
     ·omega
     ·refine AF hr ?_;exact jM a ‹_› (by omega)
  ·refine Cx (Xx (Xx (Xe (Xt (Sr (p1 Y (dl HD Y (AE b) (P2 Y Y (Dx (Ct (Rb Y Y ?_)))))))))));show((decide ((((l.length:Nat):Int):Int)<=6)):Bool)=_;exact A1r (λj h=>hr j (by omega))
end Go.Sy.Eng3
