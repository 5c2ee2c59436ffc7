/-
  Contracts of functions of the program, walked (printed by a program of ours).
  Conditions: those that each theorem states.
-/
import Derived.Test.YtfmjgnjaoihefaaGreatDoorFct
import Derived.Test.YtfmjgnjaoihefaaGreatDoorNum2
set_option linter.unusedVariables false
set_option maxRecDepth 20000
namespace Go.Sy.Num3
open Go Go.RowKit Go.Proofs Go.Sy
open Go.Sy.Bel1 Go.Sy.Ev1 Go.Sy.Ev2 Go.Sy.Fmt1 Go.Sy.Eng1 Go.Sy.Eng2 Go.Sy.Eng3 Go.Sy.Num1 Go.Sy.Num2
set_option maxHeartbeats 4000000 in
theorem S1{w:World}{v:List Value}{e:Engine}{x:List Value}{f:Firing}(ae:Gd.rd w v e)(af:Gd.rd w x f):Cy 105 [(.agg v.toArray),(.agg x.toArray)] w (Val w (.bool (JS e f))):=by
 obtain⟨u1,u3,u5,u7,rfl,m,ag,ah,ai⟩:=C6 ae;have ax:=rM m;have al:=rM ag;have am:=rM ah;have an:=rM ai;obtain⟨o,rfl,a⟩:=BQ af;have ao:=rM a;refine enter 56 Tryz.func105 Y Y Y (Sr (bX Y λg16=>?_));refine bX Y λg17=>?_
 refine Pe Y (Dh ([bx g17 [(.string f.Rule),o],bx g16 [u1,u3,(iv e.Clock),u5,(.bool e.Halted),u7]]) Y (Sr (fl 1 JM TR Y (fl 0 IK BK Y (qv pW Y (λw' hs=>(LD (rA hs m))) (Pe Y (Cq (Cq ?_))))))));have hfl:=QI e.Rules f.Rule;refine Cr (P2 Y Y (Dx (Cd Y (λz=>?_) (λz=>?_))))
 ·refine Sr (Pe Y (Ct (Xr (Rb Y Y ?_))));exact A0r (by omega)
 ·refine Sk (Sr (Pe Y (Cq (Sr (fl 1 JM TR Y (p1 Y ?_))))));obtain⟨r0,s⟩:=sI e.Rules ((BN e.Rules f.Rule).toNat);obtain⟨ap,a0,a1⟩:=AC (n:=4) rfl m s;obtain⟨aj,ay,rfl,b,a2⟩:=BC a1;have aq:=rM b;have ar:=rM a2;refine q1 Y (AJ (l:=e.Rules) (j:=((BN e.Rules f.Rule).toNat)) HD Y Y Y (λw' hs=>(rA hs m)) (Int.toNat_of_nonneg (by omega)).symm (lS s)) (q1 Y (B2 CO Y Y) (q1 Y (lr GN Y Y a0 Y) (dl D6 Y (AE b) (Pe Y (AH [2,3,6,23,24,25] Y (Cb (Cl (λm_ ac w'=>∃(k:Nat),∃(c:Nat),(k<=r0.If.length)/\(c=KZ r0.If k)/\m_=r0.If.length-k/\Fits ac 56 [(2,(pv g16)),(3,(pv g17)),(6,(nv c)),(23,aj),(24,(nv r0.If.length)),(25,(nv k))]/\St w ([bx g17 [(.string f.Rule),o],bx g16 [u1,u3,(iv e.Clock),u5,(.bool e.Halted),u7]]) w') ?_ ?_)))))))
  ·refine λac w' hf hs=>⟨_,0,0,?_,?_,Y,hf.wk Y,hs⟩
   ·omega
   ·simp[KZ]
  ·rintro m_ ac w' ⟨k,c,hk,hc,rfl,hf,hs⟩;refine D.use ?_ hf hs;clear hf hs ac w';have hcl:=cQ r0.If k;refine Sr (Pe Y (Cq (Cd Y (λa3=>?_) (λa3=>?_))))
   ·refine Sk (Cq (Cb (Sr ?_)));obtain⟨d,p⟩:=sI r0.If k;obtain⟨au,a4,q⟩:=AC (n:=5) rfl b p;obtain⟨u,rfl,r⟩:=A8 q;have av:=rM r;have aw:=AK q;refine q1 Y (AJ (l:=r0.If) (j:=k) D6 Y Y Y (λw' hs=>(rA hs b)) Y (lS p)) (q1 Y (EX D4 Y Y a4) (aL MN Y λak=>?_));refine li Y (AZ (vs:=[(iv d.Kind),(.string d.Pattern.Rel),u,(.string d.Left),(.string d.Right)]) (cs':=[(iv d.Kind),(.string d.Pattern.Rel),u,(.string d.Left),(.string d.Right)]) 0 M3 Y Y Y Y Y Y (AB Y (AB Y (AB (A2 r) (AB Y (AB Y BR))))) (by simp) Y ?_);refine Dx (Dh ([bx ak [(iv d.Kind),(.string d.Pattern.Rel),u,(.string d.Left),(.string d.Right)],_,_]) Y (Sr (fl 0 C0 CJ Y (Pe Y (Ce Y (λa5=>?_) (λa5=>?_))))))
    ·refine Cr (p1 Y (ad (c+1) Y (p1 Y (De (Xb (Xt (Cr (ad (k+1) Y (Pe Y (λac w' hf hs=>⟨_,?_,k+1,c+1,?_,?_,Y,hf.wk Y,hs.pk [1,2] Y Y⟩))))))))))
     ·omega
     ·omega
     ·rw[hc];exact jX p (by omega)
    ·refine Ck (Xb (Xt (Cr (ad (k+1) Y (Pe Y (λac w' hf hs=>⟨_,?_,k+1,c,?_,?_,Y,hf.wk Y,hs.pk [1,2] Y Y⟩))))))
     ·omega
     ·omega
     ·rw[hc];exact jY p (by omega)
   ·refine Cx (Xx (Xx (Xe (Xt (Cq (Sr (fl 0 HC H7 Y (dl BS Y (AE a) (Pe Y (Cb (Cl (λm_ ac w'=>∃(j:Nat),(j<=f.Times.length)/\(∀i,i<j->∀t,f.Times[i]?=some t->GO t 1 e.Clock=true)/\m_=f.Times.length-j/\Fits ac 56 [(2,(pv g16)),(3,(pv g17)),(6,(nv c)),(36,o),(37,(nv f.Times.length)),(38,(nv j))]/\St w ([bx g17 [(.string f.Rule),o],bx g16 [u1,u3,(iv e.Clock),u5,(.bool e.Halted),u7]]) w') ?_ ?_)))))))))))
    ·refine λac w' hf hs=>⟨_,0,?_,?_,Y,hf.wk Y,hs⟩
     ·omega
     ·intro i hi;omega
    ·rintro m_ ac w' ⟨j,hj,ht,rfl,hf,hs⟩;refine D.use ?_ hf hs;clear hf hs ac w';refine Sr (Pe Y (Cq (Cd Y (λa6=>?_) (λa6=>?_))))
     ·refine Sk (Cq (Cb (Sr ?_)));obtain⟨t0,g⟩:=sI f.Times j;obtain⟨a7,a8,a9⟩:=AC (n:=1) rfl a g;obtain rfl:a7=[.int .i64 t0]:=a9;refine q1 Y (AJ (l:=f.Times) (j:=j) BS Y Y Y (λw' hs=>(rA hs a)) Y (lS g)) (q1 Y (HI CJ Y Y a8 Y) (Pe Y (Sr (P3 Y Y Y (EY 44 Y Y (λaa=>?_) (λaa=>?_))))))
      ·refine n1 Y (n1 Y (n1 Y (n1 Y (Pe Y (GF Y (Sr (Pe Y (Ct (Xq (Xr (Xr (Xq (Xr (Rb Y Y ?_))))))))))))));exact sC g (by unfold GO;simp;omega)
      ·refine p1 Y (fl 1 K9 CJ Y (P2 Y Y (Dx (Cd Y (λab=>?_) (λab=>?_)))))
       ·refine Sr (Pe Y (Ct (Xq (Xr (Xr (Xq (Xr (Rb Y Y ?_))))))));exact sC g (by unfold GO;simp;omega)
       ·refine Ck (Xb (Xt (Cr (ad (j+1) Y (Pe Y (λac w' hf hs=>⟨_,?_,j+1,?_,?_,Y,hf.wk Y,hs⟩))))))
        ·omega
        ·omega
        ·refine AF ht ?_;intro y hy;obtain rfl:y=t0:=Option.some.inj (hy.symm.trans g);unfold GO;simp;omega
     ·refine Cx (Xx (Xx (Xe (Xt (Sr (fl 0 HC H7 Y (dl BS Y (AE a) (P3 Y Y Y (Dx (Ct (Rb Y Y ?_)))))))))));show(((((f.Times.length:Nat):Int):Int)==((c:Nat):Int)):Bool)=_;exact A5c s (by omega) (λi h=>ht i (by omega)) (XL hc (by omega) (by omega))
theorem eV{w:World}{e:List Value}{r:Rule}(i:Gd.rd w e r):Cy 148 [(.agg e.toArray)] w (Val w (iv ((gH r:Int)))):=by
 obtain⟨p,q,rfl,a,m⟩:=BC i;have u:=rM a;have v:=rM m;refine enter 22 Tryz.func148 Y Y Y (Sr (bX Y λg7=>?_));refine Pe Y (Dh ([bx g7 [(.string r.Name),(iv r.Priority),p,q]]) Y (Sr (Pe Y (Cq (Sr (Pe Y (Cb (Cl (λm_ ac w'=>∃(k:Nat),∃(c:Nat),(k<=r.If.length)/\(c=KZ r.If k)/\m_=r.If.length-k/\Fits ac 22 [(1,(pv g7)),(3,(nv c)),(4,(nv k))]/\St w ([bx g7 [(.string r.Name),(iv r.Priority),p,q]]) w') ?_ ?_))))))))
 ·refine λac w' hf hs=>⟨_,0,0,?_,?_,Y,hf.wk Y,hs⟩
  ·omega
  ·simp[KZ]
 ·rintro m_ ac w' ⟨k,c,hk,hc,rfl,hf,hs⟩;refine D.use ?_ hf hs;clear hf hs ac w';have hcl:=cQ r.If k;refine Cq (Sr (p1 Y (fl 0 CO GN Y (dl D6 Y (AE a) (Pe Y (Cd Y (λo=>?_) (λo=>?_)))))))
  ·refine Sk (Cq (Cb (Sr (fl 0 CO GN Y (p1 Y ?_)))));obtain⟨z,b⟩:=sI r.If k;obtain⟨x,f,d⟩:=AC (n:=5) rfl a b;obtain⟨y,rfl,g⟩:=A8 d;have s:=rM g;have t:=AK d;refine q1 Y (AJ (l:=r.If) (j:=k) D6 Y Y Y (λw' hs=>(rA hs a)) Y (lS b)) (q1 Y (B2 C0 Y Y) (q1 Y (lr CJ Y Y f Y) (Pe Y (Ce Y (λh=>?_) (λh=>?_)))))
   ·refine Cr (p1 Y (ad (c+1) Y (p1 Y (De (Xb (Xt (Cr (p1 Y (ad (k+1) Y (Pe Y (λac w' hf hs=>⟨_,?_,k+1,c+1,?_,?_,Y,hf.wk Y,hs⟩)))))))))))
    ·omega
    ·omega
    ·rw[hc];exact jX b (by omega)
   ·refine Ck (Xb (Xt (Cr (p1 Y (ad (k+1) Y (Pe Y (λac w' hf hs=>⟨_,?_,k+1,c,?_,?_,Y,hf.wk Y,hs⟩)))))))
    ·omega
    ·omega
    ·rw[hc];exact jY b (by omega)
  ·refine Cx (Xx (Xx (Xe (Xt (Sr (P2 Y Y (Dx (Ct (Ri Y Y ?_)))))))));show(((c:Nat):Int):Int)=_;rw[XL hc (by omega) (by omega)]
theorem VE{w:World}{g:List Value}{e:Engine}{k:List Value}{x:Firing}(a3:Gd.rd w g e)(a4:Gd.rd w k x):Cy 91 [(.agg g.toArray),(.agg k.toArray)] w (Val w (.bool (JS e x))):=by
 obtain⟨u1,u3,u5,u7,rfl,b,a5,a6,a7⟩:=C6 a3;have ah:=rM b;have a8:=rM a5;have a9:=rM a6;have aa:=rM a7;obtain⟨m,rfl,a⟩:=BQ a4;have ab:=rM a;refine enter 42 Tryz.func91 Y Y Y (Sr (bX Y λg16=>?_));refine bX Y λg17=>?_
 refine Pe Y (Dh ([bx g17 [(.string x.Rule),m],bx g16 [u1,u3,(iv e.Clock),u5,(.bool e.Halted),u7]]) Y (Sr (fl 1 JM TR Y (fl 0 IK BK Y (qv pX Y (λw' hs=>(LE (rA hs b))) (Pe Y (Cq (Cq ?_))))))));have hfl:=QI e.Rules x.Rule;refine A0 mixed [] (by kernel_rfl) (tK 11 [0,1,2] Y (EY 14 Y Y (λo=>?_) (λo=>?_)))
 ·refine tK 0 [3,4,5,6,7,8,9,10,11,12,13] Y (tE (Xt (AH [2,3,25] Y (GF Y (Sr (Pe Y (Ct (Xr (Rb Y Y ?_)))))))));exact A0r (by omega)
 ·refine Tk 3 Y Y (Db HC Y Y (q:=1) Y) (Tk 4 Y Y (lb 0 H7 Y Y Y Y) (Tk 5 Y Y (Dl BS Y Y (AE a)) (Tk 6 Y Y (Db JM Y Y (q:=0) Y) (Tk 7 Y Y (lb 1 TR Y Y Y Y) (tR 8 Y Y ?_)))));obtain⟨r0,c⟩:=sI e.Rules ((BN e.Rules x.Rule).toNat);obtain⟨ae,p,f⟩:=AC (n:=4) rfl b c;obtain⟨ai,aj,rfl,r,s⟩:=BC f;have af:=rM r;have ag:=rM s;refine Tk 9 Y Y (AJ (l:=e.Rules) (j:=((BN e.Rules x.Rule).toNat)) HD Y Y Y (λw' hs=>(rA hs b)) (Int.toNat_of_nonneg (by omega)).symm (lS c)) (Tk 10 Y Y (EX I7 Y Y p) (ty 11 Y Y (cv A4b Y Y Y Y (λw' hs=>(eV (rA hs f))) ?_)));refine tS (λ_ hs=>hs) (tK 0 [12,13] Y (tE (Xt (AH [2,3,25] Y (Cn Y (λu=>?_) (λu=>?_))))))
  ·refine Sr (Pe Y (Ct (Xr (Rb Y Y ?_))));exact A5b c (by omega)
  ·refine Sk (Cq (Sr (Pe Y (Cb (Cl (λm_ ac w'=>∃(j:Nat),(j<=x.Times.length)/\(∀i,i<j->∀t,x.Times[i]?=some t->GO t 1 e.Clock=true)/\m_=x.Times.length-j/\Fits ac 42 [(2,(pv g16)),(3,(pv g17)),(6,(nv j))]/\St w ([bx g17 [(.string x.Rule),m],bx g16 [u1,u3,(iv e.Clock),u5,(.bool e.Halted),u7]]) w') ?_ ?_)))))
   ·refine λac w' hf hs=>⟨_,0,?_,?_,Y,hf.wk Y,hs⟩
    ·omega
    ·intro i hi;omega
   ·rintro m_ ac w' ⟨j,hj,ht,rfl,hf,hs⟩;refine D.use ?_ hf hs;clear hf hs ac w';refine Cq (Sr (p1 Y (fl 0 HC H7 Y (dl BS Y (AE a) (Pe Y (Cd Y (λv=>?_) (λv=>?_)))))))
    ·refine Sk (Cq (Cb (Cq (A0 mixed [7,8] (by kernel_rfl) (Tk 0 Y Y (Db HC Y Y (q:=1) Y) (Tk 1 Y Y (lb 0 H7 Y Y Y Y) (tR 2 Y Y ?_)))))));obtain⟨t0,d⟩:=sI x.Times j;obtain⟨z,a0,a1⟩:=AC (n:=1) rfl a d;obtain rfl:z=[.int .i64 t0]:=a1;refine Tk 3 Y Y (AJ (l:=x.Times) (j:=j) BS Y Y Y (λw' hs=>(rA hs a)) Y (lS d)) (Tk 4 Y Y (HI CJ Y Y a0 Y) (Tk 5 Y Y (Db K9 Y Y (q:=2) Y) (Tk 6 Y Y (lb 1 CJ Y Y Y Y) (ty 7 Y Y (cv SP Y Y Y Y (λw' hs=>E7) ?_)))));refine tZ Y (tW 8 Y Y Y (tE (Xt (CN Y (λa2=>?_) (λa2=>?_)))))
     ·refine Sr (Pe Y (Ct (Xq (Xr (Xr (Xq (Xr (Rb Y Y ?_))))))));exact sC d ‹_›
     ·refine Ck (Xb (Xt (Cr (p1 Y (ad (j+1) Y (Pe Y (λac w' hf hs=>⟨_,?_,j+1,?_,?_,Y,hf.wk Y,hs⟩)))))))
      ·omega
      ·omega
      ·refine AF ht ?_;intro y hy;obtain rfl:y=t0:=Option.some.inj (hy.symm.trans d);assumption
    ·refine Cx (Xx (Xx (Xe (Xt (Sr (Pe Y (Ct (Rb Y Y ?_))))))));exact A7e c (by omega) (λi h=>ht i (by omega)) (by omega)
theorem O2{w:World}{e:Value}{l:(List Firing)}{g:List Value}{x:Choice}(b:Gd.rd w [e] l)(m:Gd.rd w g x):Cy 92 [e,(.agg g.toArray)] w (Val w (.bool (MG l x.Match.Rule x.Times))):=by
 have a4:=rM b;obtain⟨z,u4,u6,rfl,t,u,o⟩:=BF m;have a5:=rM t;have a6:=rM u;have a0:=rM o;have a1:=AQ m;refine enter 31 Tryz.func92 Y Y Y (Sr (bX Y λg12=>?_));refine Pe Y (Dh ([bx g12 [(.string x.Match.Rule),z,u4,(iv x.Priority),u6,(iv x.Specific),(iv x.Order)]]) Y (Cq (Sr (Pe Y (Cb (Cl (λm_ ac w'=>∃(k:Nat),(k<=l.length)/\(∀i,i<k->∀f,l[i]?=some f->¬(f.Rule=x.Match.Rule/\f.Times=x.Times))/\m_=l.length-k/\Fits ac 31 [(0,e),(3,(pv g12)),(5,(nv k))]/\St w ([bx g12 [(.string x.Match.Rule),z,u4,(iv x.Priority),u6,(iv x.Specific),(iv x.Order)]]) w') ?_ ?_))))))
 ·refine λac w' hf hs=>⟨_,0,?_,?_,Y,hf.wk Y,hs⟩
  ·omega
  ·intro i hi;omega
 ·rintro m_ ac w' ⟨k,hk,hi,rfl,hf,hs⟩;refine D.use ?_ hf hs;clear hf hs ac w';refine Cq (Sr (P2 Y Y (dl JL Y (AE b) (Pe Y (Cd Y (λp=>?_) (λp=>?_))))))
  ·refine Sk (Cq (Cb (Cq (A0 mixed [17,18] (by kernel_rfl) (tK 17 [0,1] Y ?_)))));obtain⟨f0,a⟩:=sI l k;obtain⟨a2,c,r⟩:=AC (n:=2) rfl b a;obtain⟨a7,rfl,d⟩:=BQ r;have a3:=rM d;refine Tk 2 Y Y (AJ (l:=l) (j:=k) JL Y Y Y (λw' hs=>(rA hs b)) Y (lS a)) (Tk 3 Y Y (B2 IK Y Y) (Tk 4 Y Y (lr BK Y Y c Y) (Tk 5 Y Y (Db F7 Y Y (q:=0) Y) (Tk 6 Y Y (Db LA Y Y (q:=0) Y) (Tk 7 Y Y (lb 0 BK Y Y Y Y) (Tk 8 Y Y (DO Y Y Y) (tR 9 Y Y (EY 21 Y Y (λs=>?_) (λs=>?_)))))))))
   ·refine tK 7 [10,11] Y (Tk 12 Y Y (AJ (l:=l) (j:=k) JL Y Y Y (λw' hs=>(rA hs b)) Y (lS a)) (Tk 13 Y Y (B2 HC Y Y) (Tk 14 Y Y (lr H7 Y Y c Y) (Tk 15 Y Y (Db IL Y Y (q:=4) Y) (Tk 16 Y Y (lb 0 H7 Y Y Y Y) (ty 17 Y Y (cv A4c Y Y Y Y (λw' hs=>(MP (rA hs d) (rA hs o))) ?_)))))));refine tZ Y (tW 18 Y Y Y (tE (Xt (AH [0,3,5,30] Y (Ci _ Y (λv=>?_) (λv=>?_))))))
    ·refine Sr (Pe Y (Ct (Xq (Xr (Xr (Xq (Xr (Rb Y Y ?_))))))));exact gI a ‹_› (by simp_all)
    ·refine Ck (Xb (Xt (Cr (p1 Y (ad (k+1) Y (Pe Y (λac w' hf hs=>⟨_,?_,k+1,?_,?_,Y,hf.wk Y,hs⟩)))))))
     ·omega
     ·omega
     ·refine AF hi ?_;intro y hy;obtain rfl:y=f0:=Option.some.inj (hy.symm.trans a);simp_all
   ·refine tK 1 [10,11,12,13,14,15,16,17] Y (tW 18 Y Y Y (tE (Xt (AH [0,3,5,30] Y (G7 Y (Ck (Xb (Xt (Cr (p1 Y (ad (k+1) Y (Pe Y (λac w' hf hs=>⟨_,?_,k+1,?_,?_,Y,hf.wk Y,hs⟩)))))))))))))
    ·omega
    ·omega
    ·refine AF hi ?_;intro y hy;obtain rfl:y=f0:=Option.some.inj (hy.symm.trans a);simp_all
  ·refine Cx (Xx (Xx (Xe (Xt (Sr (Pe Y (Ct (Rb Y Y ?_))))))));exact gJ (λi h=>hi i (by omega))
set_option maxHeartbeats 4000000 in
theorem WL{w:World}{a6:List Value}{e:Engine}(a7:Gd.rd w a6 e)(hn:DI e<=1048576)(av:Tb w):Cy 43 [(.agg a6.toArray)] w (Val w (.bool (HT e))):=by
 obtain⟨u1,u3,u5,u7,rfl,a8,c,a,d⟩:=C6 a7;have bc:=rM a8;have az:=rM c;have b0:=rM a;have b1:=rM d;unfold DI at hn;refine enter 91 Tryz.func43 Y Y Y (Sr (bX Y λg13=>?_));refine Pe Y (Dh ([bx g13 [u1,u3,(iv e.Clock),u5,(.bool e.Halted),u7]]) Y (Cq (Sr (fl 0 JM TR Y (qv A0X Y (λw' hs=>(OS (rA hs a8) (by omega))) (P2 Y Y (JQ 14 Y Y (λa9=>?_) (λa9=>?_))))))))
 ·refine n1 Y (n1 Y (n1 Y (n1 Y (P2 Y Y (n1 Y (n1 Y (n1 Y (P2 Y Y (n1 Y (n1 Y (n1 Y (P2 Y Y (n1 Y (n1 Y (n1 Y (n1 Y (P2 Y Y (n1 Y (n1 Y (n1 Y (n1 Y (p1 Y (De ?_)))))))))))))))))))))));refine Xt (AH [1,41] Y (GF Y (Sr (Pe Y (Ct (Xr (Rb Y Y ?_)))))));exact NO (.inl ‹_›)
 ·refine fl 0 J3 VN Y (qv A0Y Y (λw' hs=>(OW (rA hs c) (by omega) (Tb.ext av hs.bel))) (P3 Y Y Y (JQ 20 Y Y (λaa=>?_) (λaa=>?_))))
  ·refine n1 Y (n1 Y (n1 Y (P2 Y Y (n1 Y (n1 Y (n1 Y (P2 Y Y (n1 Y (n1 Y (n1 Y (n1 Y (P2 Y Y (n1 Y (n1 Y (n1 Y (n1 Y (Pe Y (AH [1,41] Y (GF Y (Sr ?_))))))))))))))))))));refine Pe Y (Ct (Xr (Rb Y Y ?_)));exact NO (.inr (.inl ‹_›))
  ·refine fl 0 K9 CJ Y (P3 Y Y Y (EY 25 Y Y (λab=>?_) (λab=>?_)))
   ·refine n1 Y (n1 Y (n1 Y (P2 Y Y (n1 Y (n1 Y (n1 Y (n1 Y (P2 Y Y (n1 Y (n1 Y (n1 Y (n1 Y (Pe Y (AH [1,41] Y (GF Y (Sr (Pe Y (Ct ?_))))))))))))))))));refine Xr (Rb Y Y ?_);exact NO (.inr (.inr (.inl (by unfold GO;simp;omega))))
   ·refine fl 0 K9 CJ Y (P3 Y Y Y (EY 30 Y Y (λae=>?_) (λae=>?_)))
    ·refine n1 Y (n1 Y (n1 Y (n1 Y (P2 Y Y (n1 Y (n1 Y (n1 Y (n1 Y (Pe Y (AH [1,41] Y (GF Y (Sr (Pe Y (Ct (Xr (Rb Y Y ?_))))))))))))))));exact NO (.inr (.inr (.inl (by unfold GO;simp;omega))))
    ·refine fl 0 HM P7 Y (dl JL Y (AE a) (P3 Y Y Y (EY 36 Y Y (λaf=>?_) (λaf=>?_))))
     ·refine n1 Y (n1 Y (n1 Y (n1 Y (Pe Y (AH [1,41] Y (GF Y (Sr (Pe Y (Ct (Xr (Rb Y Y ?_)))))))))));exact NO (.inr (.inr (.inr (.inl (by omega)))))
     ·refine fl 0 L5 aY Y (dl MU Y (AE d) (P2 Y Y (Dx (AH [1,41] Y (Cd Y (λag=>?_) (λag=>?_))))))
      ·refine Sr (Pe Y (Ct (Xr (Rb Y Y ?_))));exact NO (.inr (.inr (.inr (.inr (by omega)))))
      ·refine Sk (Cq (Sr (fl 0 J3 VN Y (dl HJ Y (AE c) (Pe Y (Cb (Cl (λm_ ac w'=>∃(k:Nat),(k<=e.Memory.length)/\(∀i,i<k->∀s,e.Memory[i]?=some s->s.Time<=e.Clock)/\m_=e.Memory.length-k/\Fits ac 91 [(1,(pv g13)),(43,u3),(44,(nv e.Memory.length)),(45,(nv k))]/\St w ([bx g13 [u1,u3,(iv e.Clock),u5,(.bool e.Halted),u7]]) w') ?_ ?_)))))))
       ·refine λac w' hf hs=>⟨_,0,?_,?_,Y,hf.wk Y,hs⟩
        ·omega
        ·intro i hi;omega
       ·rintro m_ ac w' ⟨k,hk,hm,rfl,hf,hs⟩;refine D.use ?_ hf hs;clear hf hs ac w';refine Sr (Pe Y (Cq (Cd Y (λah=>?_) (λah=>?_))))
        ·refine Sk (Cq (Cb (Sr ?_)));obtain⟨s0,o⟩:=sI e.Memory k;obtain⟨b2,ai,x⟩:=AC (n:=3) rfl c o;obtain⟨a3,rfl,z⟩:=B9 x;have b3:=rM z;have b4:=BE x;refine q1 Y (AJ (l:=e.Memory) (j:=k) HJ Y Y Y (λw' hs=>(rA hs c)) Y (lS o)) (q1 Y (EX P6 Y Y ai) (aL SC Y λaw=>?_));refine li Y (AZ (vs:=[(.string s0.Fact.Rel),a3,(iv s0.Time)]) (cs':=[(.string s0.Fact.Rel),a3,(iv s0.Time)]) 0 TQ Y Y Y Y Y Y (AB Y (AB (A2 z) (AB Y BR))) (by simp) Y ?_);refine Dx (Dh ([bx aw [(.string s0.Fact.Rel),a3,(iv s0.Time)],_]) Y (Sr (fl 0 F6 CJ Y (fl 1 K9 CJ Y (Pe Y (Cd Y (λaj=>?_) (λaj=>?_)))))))
         ·refine Sr (Pe Y (Ct (Xq (Xr (Xr (Xq (Xr (Rb Y Y ?_))))))));exact A0s o (by omega)
         ·refine Ck (Xb (Xt (Cr (ad (k+1) Y (Pe Y (λac w' hf hs=>⟨_,?_,k+1,?_,?_,Y,hf.wk Y,hs.pk [1] Y Y⟩))))))
          ·omega
          ·omega
          ·refine AF hm ?_;intro y hy;obtain rfl:y=s0:=Option.some.inj (hy.symm.trans o);omega
        ·refine Cx (Xx (Xx (Xe (Xt (Cq (Sr (fl 0 HM P7 Y (dl JL Y (AE a) (Pe Y (Cb (Cl (λm_ ac w'=>∃(j:Nat),(j<=e.Fired.length)/\(∀i,i<j->KD e i=true)/\m_=e.Fired.length-j/\Fits ac 91 [(1,(pv g13)),(56,u5),(57,(nv e.Fired.length)),(58,(nv j))]/\St w ([bx g13 [u1,u3,(iv e.Clock),u5,(.bool e.Halted),u7]]) w') ?_ ?_)))))))))))
         ·refine λac w' hf hs=>⟨_,0,?_,?_,Y,hf.wk Y,hs⟩
          ·omega
          ·intro i hi;omega
         ·rintro m_ ac w' ⟨j,hj,hf_,rfl,hf,hs⟩;refine D.use ?_ hf hs;clear hf hs ac w';refine Sr (Pe Y (Cq (Cd Y (λak=>?_) (λak=>?_))))
          ·refine Sk (Cq (Cb (Sr (p1 Y ?_))));obtain⟨f0,b⟩:=sI e.Fired j;obtain⟨b5,al,f⟩:=AC (n:=2) rfl a b;obtain⟨r,rfl,a0⟩:=BQ f;have b6:=rM a0;refine q1 Y (AJ (l:=e.Fired) (j:=j) JL Y Y Y (λw' hs=>(rA hs a)) Y (lS b)) (q1 Y (EX VM Y Y al) (aL pG Y λa4=>?_));refine p1 Y (li Y (AZ (vs:=[(.string f0.Rule),r]) (cs':=[(.string f0.Rule),r]) 0 wC Y Y Y Y Y Y (AB Y (AB (A2 a0) BR)) (by simp) Y ?_));refine Dx (Dh ([bx a4 [(.string f0.Rule),r],_]) Y (Cq (Sr (q1 Y (C9 1 YR Y Y Y) (q1 Y (C9 0 VM Y Y Y) (qv A4d Y (λw' hs=>(S1 (rA hs a7) (rA hs f))) (Pe Y (CN Y (λam=>?_) (λam=>?_)))))))))
           ·refine Sr (Pe Y (Ct (Xr (Xq (Xr (Xr (Xq (Xr (Rb Y Y ?_)))))))));exact kA (lS b) (cT b ‹_›)
           ·refine Sk (Sr (Pe Y (Cb (Cl (λm_ ac w'=>∃(q:Nat),(q<=j)/\(∀i,i<q->∀g,e.Fired[i]?=some g->g≠f0)/\m_=j-q/\Fits ac 91 [(1,(pv g13)),(5,(nv j)),(6,(pv a4)),(7,(nv q)),(56,u5),(57,(nv e.Fired.length)),(58,(nv j))]/\St w ([bx a4 [(.string f0.Rule),r],bx g13 [u1,u3,(iv e.Clock),u5,(.bool e.Halted),u7]]) w') ?_ ?_))))
            ·refine λac w' hf hs=>⟨_,0,?_,?_,Y,hf.wk Y,hs⟩
             ·omega
             ·intro i hi;omega
            ·rintro m_ ac w' ⟨q,hq,hs_,rfl,hf,hs⟩;refine D.use ?_ hf hs;clear hf hs ac w';refine Cq (Sr (P3 Y Y Y (Dx (Cd Y (λan=>?_) (λan=>?_)))))
             ·refine Sk (Cq (Cb (Cq (A0 mixed [6] (by kernel_rfl) (Tk 0 Y Y (Db HM Y Y (q:=3) Y) (Tk 1 Y Y (lb 1 P7 Y Y Y Y) (tR 2 Y Y ?_)))))));obtain⟨g0,t⟩:=sI e.Fired q;obtain⟨b7,ao,a1⟩:=AC (n:=2) rfl a t;obtain⟨bd,rfl,ap⟩:=BQ a1;have b8:=rM ap;refine Tk 3 Y Y (AJ (l:=e.Fired) (j:=q) JL Y Y Y (λw' hs=>(rA hs a)) Y (lS t)) (Tk 4 Y Y (EX VM Y Y ao) (Tk 5 Y Y (C9 0 VM Y Y Y) (ty 6 Y Y (cv A4e Y Y Y Y (λw' hs=>(MQ (rA hs a1) (rA hs f))) ?_))));refine tZ Y (tE (Xt (Ci _ Y (λax=>?_) (λax=>?_))))
              ·refine Sr (Pe Y (Ct (Xq (Xr (Xr (Xq (Xq (Xr (Xr (Xq (Xr (Rb Y Y ?_))))))))))));exact kA (lS b) (sE b t (by omega) (by simp_all))
              ·refine Ck (Xb (Xt (Cr (p1 Y (ad (q+1) Y (Pe Y (λac w' hf hs=>⟨_,?_,q+1,?_,?_,Y,hf.wk Y,hs⟩)))))))
               ·omega
               ·omega
               ·refine AF hs_ ?_;intro y hy;obtain rfl:y=g0:=Option.some.inj (hy.symm.trans t);simp_all
             ·refine Cx (Xx (Xx (Xe (Xb (Xt (Cr (ad (j+1) Y (Pe Y (λac w' hf hs=>⟨_,?_,j+1,?_,?_,Y,hf.wk Y,hs.pk [1] Y Y⟩)))))))))
              ·omega
              ·omega
              ·refine AF hf_ ?_;exact xN b ‹_› (λi h=>hs_ i (by omega))
          ·refine Cx (Xx (Xx (Xe (Xt (Cq (Sr (fl 0 L5 aY Y (dl MU Y (AE d) (Pe Y (Cb (Cl (λm_ ac w'=>∃(p:Nat),(p<=e.Log.length)/\(∀i,i<p->∀v,e.Log[i]?=some v->AN v=true)/\m_=e.Log.length-p/\Fits ac 91 [(81,u7),(82,(nv e.Log.length)),(83,(nv p))]/\St w ([bx g13 [u1,u3,(iv e.Clock),u5,(.bool e.Halted),u7]]) w') ?_ ?_)))))))))))
           ·refine λac w' hf hs=>⟨_,0,?_,?_,Y,hf.wk Y,hs⟩
            ·omega
            ·intro i hi;omega
           ·rintro m_ ac w' ⟨p,hp,hv,rfl,hf,hs⟩;refine D.use ?_ hf hs;clear hf hs ac w';refine Sr (Pe Y (Cq (Cd Y (λaq=>?_) (λaq=>?_))))
            ·refine Sk (Cq (Cb (Sr ?_)));obtain⟨v0,u⟩:=sI e.Log p;obtain⟨b9,ar,m⟩:=AC (n:=4) rfl d u;obtain⟨a5,rfl,a2⟩:=D2 m;have ba:=rM a2;have bb:=CC m;refine q1 Y (AJ (l:=e.Log) (j:=p) MU Y Y Y (λw' hs=>(rA hs d)) Y (lS u)) (q1 Y (EX fM Y Y ar) (aL vU Y λay=>?_));refine li Y (AZ (vs:=[(iv v0.Kind),(.string v0.Rule),(.string v0.Fact.Rel),a5]) (cs':=[(iv v0.Kind),(.string v0.Rule),(.string v0.Fact.Rel),a5]) 0 A1Q Y Y Y Y Y Y (AB Y (AB Y (AB Y (AB (A2 a2) BR)))) (by simp) Y ?_);refine Dx (Dh ([bx ay [(iv v0.Kind),(.string v0.Rule),(.string v0.Fact.Rel),a5],_]) Y (Sr (q1 Y (C9 0 fM Y Y Y) (qv A4f Y (λw' hs=>(YV (rA hs m))) (Pe Y (CN Y (λau=>?_) (λau=>?_)))))))
             ·refine Sr (Pe Y (Ct (Xq (Xr (Xr (Xq (Xr (Rb Y Y ?_))))))));exact A0t u ‹_›
             ·refine Ck (Xb (Xt (Cr (ad (p+1) Y (Pe Y (λac w' hf hs=>⟨_,?_,p+1,?_,?_,Y,hf.wk Y,hs.pk [1] Y Y⟩))))))
              ·omega
              ·omega
              ·refine AF hv ?_;intro y hy;obtain rfl:y=v0:=Option.some.inj (hy.symm.trans u);assumption
            ·refine Cx (Xx (Xx (Xe (Xt (Sr (Pe Y (Ct (Rb Y Y ?_))))))));exact A5d ‹_› ‹_› (by unfold GO;simp;omega) (by omega) (by omega) (λi h=>hm i (by omega)) (λi h=>hf_ i (by omega)) (λi h=>hv i (by omega))
set_option maxHeartbeats 4000000 in
theorem WM{w:World}{a1:List Value}{e:Engine}(a2:Gd.rd w a1 e)(hn:DI e<=1048576)(ho:QC e):Cy 37 [(.agg a1.toArray)] w (Val w (.bool (HT e))):=by
 obtain⟨u1,u3,u5,u7,rfl,a3,c,a,d⟩:=C6 a2;have b1:=rM a3;have ao:=rM c;have ap:=rM a;have aq:=rM d;unfold DI at hn;refine enter 100 Tryz.func37 Y Y Y (Sr (bX Y λg13=>?_));refine Pe Y (Dh ([bx g13 [u1,u3,(iv e.Clock),u5,(.bool e.Halted),u7]]) Y (Cq (Sr (fl 0 JM TR Y (qv A1X Y (λw' hs=>(LF (rA hs a3) (by omega) ho.1)) (P2 Y Y (JQ 10 Y Y (λa4=>?_) (λa4=>?_))))))))
 ·refine n1 Y (n1 Y (n1 Y (n1 Y (P2 Y Y (n1 Y (n1 Y (n1 Y (n1 Y (P2 Y Y (n1 Y (n1 Y (n1 Y (n1 Y (P2 Y Y (n1 Y (n1 Y (n1 Y (n1 Y (Pe Y (AH [1,33] Y (GF Y ?_)))))))))))))))))))));refine Sr (Pe Y (Ct (Xr (Rb Y Y ?_))));exact NO (.inl ‹_›)
 ·refine fl 0 J3 VN Y (qv A4M Y (λw' hs=>(OX (rA hs c) (by omega) ho.2.1)) (P3 Y Y Y (JQ 16 Y Y (λa5=>?_) (λa5=>?_))))
  ·refine n1 Y (n1 Y (n1 Y (n1 Y (P2 Y Y (n1 Y (n1 Y (n1 Y (n1 Y (P2 Y Y (n1 Y (n1 Y (n1 Y (n1 Y (Pe Y (AH [1,33] Y (GF Y (Sr (Pe Y ?_))))))))))))))))));refine Ct (Xr (Rb Y Y ?_));exact NO (.inr (.inl ‹_›))
  ·refine fl 0 K9 CJ Y (qv SP Y (λw' hs=>E7) (P3 Y Y Y (JQ 22 Y Y (λa6=>?_) (λa6=>?_))))
   ·refine n1 Y (n1 Y (n1 Y (n1 Y (P2 Y Y (n1 Y (n1 Y (n1 Y (n1 Y (Pe Y (AH [1,33] Y (GF Y (Sr (Pe Y (Ct (Xr (Rb Y Y ?_))))))))))))))));exact NO (.inr (.inr (.inl ‹_›)))
   ·refine fl 0 HM P7 Y (dl JL Y (AE a) (P3 Y Y Y (EY 28 Y Y (λa7=>?_) (λa7=>?_))))
    ·refine n1 Y (n1 Y (n1 Y (n1 Y (Pe Y (AH [1,33] Y (GF Y (Sr (Pe Y (Ct (Xr (Rb Y Y ?_)))))))))));exact NO (.inr (.inr (.inr (.inl (by omega)))))
    ·refine fl 0 L5 aY Y (dl MU Y (AE d) (P2 Y Y (Dx (AH [1,33] Y (Cd Y (λa8=>?_) (λa8=>?_))))))
     ·refine Sr (Pe Y (Ct (Xr (Rb Y Y ?_))));exact NO (.inr (.inr (.inr (.inr (by omega)))))
     ·refine Sk (Cq (Sr (Pe Y (Cb (Cl (λm_ ac w'=>∃(k:Nat),(k<=e.Memory.length)/\(∀i,i<k->∀s,e.Memory[i]?=some s->s.Time<=e.Clock)/\m_=e.Memory.length-k/\Fits ac 100 [(1,(pv g13)),(3,(nv k))]/\St w ([bx g13 [u1,u3,(iv e.Clock),u5,(.bool e.Halted),u7]]) w') ?_ ?_)))))
      ·refine λac w' hf hs=>⟨_,0,?_,?_,Y,hf.wk Y,hs⟩
       ·omega
       ·intro i hi;omega
      ·rintro m_ ac w' ⟨k,hk,hm,rfl,hf,hs⟩;refine D.use ?_ hf hs;clear hf hs ac w';refine Cq (Sr (p1 Y (fl 0 J3 VN Y (dl HJ Y (AE c) (Pe Y (Cd Y (λa9=>?_) (λa9=>?_)))))))
       ·refine Sk (Cq (Cb (Cq (A0 mixed [] (by kernel_rfl) (Tk 0 Y Y (Db J3 Y Y (q:=1) Y) (Tk 1 Y Y (lb 0 VN Y Y Y Y) (tR 2 Y Y ?_)))))));obtain⟨s0,u⟩:=sI e.Memory k;obtain⟨ar,aa,z⟩:=AC (n:=3) rfl c u;obtain⟨b2,rfl,ab⟩:=B9 z;have au:=rM ab;have av:=BE z;refine Tk 3 Y Y (AJ (l:=e.Memory) (j:=k) HJ Y Y Y (λw' hs=>(rA hs c)) Y (lS u)) (Tk 4 Y Y (B2 F6 Y Y) (Tk 5 Y Y (lr CJ Y Y aa Y) (Tk 6 Y Y (Db K9 Y Y (q:=2) Y) (Tk 7 Y Y (lb 0 CJ Y Y Y Y) (tR 8 Y Y (tE (Xt (Cd Y (λae=>?_) (λae=>?_)))))))))
        ·refine Sr (Pe Y (Ct (Xq (Xr (Xr (Xq (Xr (Rb Y Y ?_))))))));exact A0s u (by omega)
        ·refine Ck (Xb (Xt (Cr (p1 Y (ad (k+1) Y (Pe Y (λac w' hf hs=>⟨_,?_,k+1,?_,?_,Y,hf.wk Y,hs⟩)))))))
         ·omega
         ·omega
         ·refine AF hm ?_;intro y hy;obtain rfl:y=s0:=Option.some.inj (hy.symm.trans u);omega
       ·refine Cx (Xx (Xx (Xe (Xt (Cq (Sr (Pe Y (Cb (Cl (λm_ ac w'=>∃(j:Nat),(j<=e.Fired.length)/\(∀i,i<j->KD e i=true)/\m_=e.Fired.length-j/\Fits ac 100 [(1,(pv g13)),(4,(nv j))]/\St w ([bx g13 [u1,u3,(iv e.Clock),u5,(.bool e.Halted),u7]]) w') ?_ ?_)))))))))
        ·refine λac w' hf hs=>⟨_,0,?_,?_,Y,hf.wk Y,hs⟩
         ·omega
         ·intro i hi;omega
        ·rintro m_ ac w' ⟨j,hj,hf_,rfl,hf,hs⟩;refine D.use ?_ hf hs;clear hf hs ac w';refine Cq (Sr (p1 Y (fl 0 HM P7 Y (dl JL Y (AE a) (Pe Y (Cd Y (λaf=>?_) (λaf=>?_)))))))
         ·refine Sk (Cq (Cb (Cq (A0 mixed [6,7,8,27,28] (by kernel_rfl) (Tk 0 Y Y (C9 0 YR Y Y Y) (Tk 1 Y Y (Db HM Y Y (q:=3) Y) (Tk 2 Y Y (lb 0 P7 Y Y Y Y) (tR 3 Y Y ?_))))))));obtain⟨t,b⟩:=sI e.Fired j;obtain⟨aw,f,a0⟩:=AC (n:=2) rfl a b;obtain⟨x,rfl,g⟩:=BQ a0;have ax:=rM g;refine Tk 4 Y Y (AJ (l:=e.Fired) (j:=j) JL Y Y Y (λw' hs=>(rA hs a)) Y (lS b)) (Tk 5 Y Y (EX VM Y Y f) (ty 6 Y Y (cv A6x Y Y Y Y (λw' hs=>(VE (rA hs a2) (rA hs a0))) ?_)));refine tZ Y (tW 7 Y Y Y (tW 8 Y Y Y (JQ 65 Y Y (λag=>?_) (λag=>?_))))
          ·refine tK 1 [9,10,11,12,13,14,15,16,17,18,19,20,21,22,23,24,25,26,27] Y (tW 28 Y Y Y (tE (Xt (AH [1,4,85] Y (GF Y ?_)))));refine Sr (Pe Y (Ct (Xq (Xr (Xr (Xq (Xr (Rb Y Y ?_))))))));exact kA (lS b) (cT b ‹_›)
          ·refine Tk 9 Y Y (Db HM Y Y (q:=3) Y) (Tk 10 Y Y (lb 0 P7 Y Y Y Y) (tR 11 Y Y ?_));have ah:=hU (m:=j) a (by omega);refine Tk 12 Y Y (oK (l:=e.Fired) (m:=j) JL Y Y Y Y (λw' hs=>(rA hs a)) (by omega)) (Tk 13 Y Y (Db HM Y Y (q:=3) Y) (Tk 14 Y Y (lb 0 P7 Y Y Y Y) (tR 15 Y Y (Tk 16 Y Y (AJ (l:=e.Fired) (j:=j) JL Y Y Y (λw' hs=>(rA hs a)) Y (lS b)) (Tk 17 Y Y (B2 IK Y Y) (Tk 18 Y Y (lr BK Y Y f Y) (Tk 19 Y Y (FY (vs:=[(0,(.string t.Rule))]) (cs:=[(.string t.Rule),(.slice none 0 0),(.slice none 0 0)]) Y (λ_=>by kernel_rfl) Y) (Tk 20 Y Y (Db HM Y Y (q:=3) Y) (Tk 21 Y Y (lb 0 P7 Y Y Y Y) (tR 22 Y Y (Tk 23 Y Y (AJ (l:=e.Fired) (j:=j) JL Y Y Y (λw' hs=>(rA hs a)) Y (lS b)) (Tk 24 Y Y (B2 HC Y Y) (Tk 25 Y Y (lr H7 Y Y f Y) (Tk 26 Y Y (FJ (vs:=[(0,(.agg #[(.string t.Rule),(.slice none 0 0),(.slice none 0 0)])),(2,x)]) (xs:=[(0,[(.string t.Rule),(.slice none 0 0),(.slice none 0 0)]),(2,[x])]) (cs:=[(.string t.Rule),(.slice none 0 0),(.slice none 0 0),(iv 0),x,(iv 0),(iv 0)]) jB Y ⟨Y,Y,⟨Y,(AO (A2 g)),trivial⟩⟩ Y Y) ?_))))))))))))));have ai:Gd.rd w [(.string t.Rule),(.slice none 0 0),(.slice none 0 0),(iv 0),x,(iv 0),(iv 0)] (⟨⟨t.Rule,[],[]⟩,0,t.Times,0,0⟩:Choice):=lQ (⟨⟨t.Rule,[],[]⟩,0,t.Times,0,0⟩:Choice) O4 O4 g;refine ty 27 Y Y (cv A4g Y Y Y Y (λw' hs=>(O2 (rA hs ah) (rA hs ai))) ?_);refine tZ Y (tW 28 Y Y Y (tE (Xt (AH [1,4,85] Y (Ci _ Y (λan=>?_) (λan=>?_))))))
           ·refine Sr (Pe Y (Ct (Xq (Xr (Xr (Xq (Xr (Rb Y Y ?_))))))));exact kA (lS b) (cV b ‹_›)
           ·refine Ck (Xb (Xt (Cr (p1 Y (ad (j+1) Y (Pe Y (λac w' hf hs=>⟨_,?_,j+1,?_,?_,Y,hf.wk Y,hs⟩)))))))
            ·omega
            ·omega
            ·refine AF hf_ ?_;exact jZ b ‹_› ‹_›
         ·refine Cx (Xx (Xx (Xe (Xt (Cq (Sr (Pe Y (Cb (Cl (λm_ ac w'=>∃(p:Nat),(p<=e.Log.length)/\(∀i,i<p->∀v,e.Log[i]?=some v->AN v=true)/\m_=e.Log.length-p/\Fits ac 100 [(1,(pv g13)),(5,(nv p))]/\St w ([bx g13 [u1,u3,(iv e.Clock),u5,(.bool e.Halted),u7]]) w') ?_ ?_)))))))))
          ·refine λac w' hf hs=>⟨_,0,?_,?_,Y,hf.wk Y,hs⟩
           ·omega
           ·intro i hi;omega
          ·rintro m_ ac w' ⟨p,hp,hv,rfl,hf,hs⟩;refine D.use ?_ hf hs;clear hf hs ac w';refine Cq (Sr (p1 Y (fl 0 L5 aY Y (dl MU Y (AE d) (Pe Y (Cd Y (λaj=>?_) (λaj=>?_)))))))
           ·refine Sk (Cq (Cb (Sr (fl 0 L5 aY Y (p1 Y ?_)))));obtain⟨v0,o⟩:=sI e.Log p;obtain⟨ay,ak,r⟩:=AC (n:=4) rfl d o;obtain⟨b3,rfl,al⟩:=D2 r;have az:=rM al;have b0:=CC r;refine q1 Y (AJ (l:=e.Log) (j:=p) MU Y Y Y (λw' hs=>(rA hs d)) Y (lS o)) (q1 Y (EX fM Y Y ak) (qv A6y Y (λw' hs=>(YW (rA hs r) (ho.2.2.2.2.2 _ (List.mem_of_getElem? o)))) (Pe Y (CN Y (λam=>?_) (λam=>?_)))))
            ·refine Sr (Pe Y (Ct (Xq (Xr (Xr (Xq (Xr (Rb Y Y ?_))))))));exact A0t o ‹_›
            ·refine Ck (Xb (Xt (Cr (p1 Y (ad (p+1) Y (Pe Y (λac w' hf hs=>⟨_,?_,p+1,?_,?_,Y,hf.wk Y,hs⟩)))))))
             ·omega
             ·omega
             ·refine AF hv ?_;intro y hy;obtain rfl:y=v0:=Option.some.inj (hy.symm.trans o);assumption
           ·refine Cx (Xx (Xx (Xe (Xt (Sr (Pe Y (Ct (Rb Y Y ?_))))))));exact A5d ‹_› ‹_› ‹_› (by omega) (by omega) (λi h=>hm i (by omega)) (λi h=>hf_ i (by omega)) (λi h=>hv i (by omega))
end Go.Sy.Num3
