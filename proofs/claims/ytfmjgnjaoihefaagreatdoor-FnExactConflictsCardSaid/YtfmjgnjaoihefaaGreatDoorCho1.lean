/-
  Contracts of functions of the program, walked (printed by a program of ours).
  Conditions: those that each theorem states.
-/
import Derived.Test.YtfmjgnjaoihefaaGreatDoorFct
import Derived.Test.YtfmjgnjaoihefaaGreatDoorEng5
import Derived.Test.YtfmjgnjaoihefaaGreatDoorEv3
import Derived.Test.YtfmjgnjaoihefaaGreatDoorNum2
import Derived.Test.YtfmjgnjaoihefaaGreatDoorCho
set_option linter.unusedVariables false
set_option maxRecDepth 20000
namespace Go.Sy.Cho1
open Go Go.RowKit Go.Proofs Go.Sy
open Go.Sy.Bel1 Go.Sy.Bel3 Go.Sy.Ev1 Go.Sy.Ev2 Go.Sy.Ev3 Go.Sy.Fmt1 Go.Sy.Eng1 Go.Sy.Eng2 Go.Sy.Eng3 Go.Sy.Eng5 Go.Sy.Num1 Go.Sy.Num2
theorem dB{w:World}{c:List Value}{a:Pair}{d:List Value}{b:Pair}(e:Gd.rd w c a)(f:Gd.rd w d b):Cy 246 [(.agg c.toArray),(.agg d.toArray)] w (Val w (.bool (decide (a=b)))):=by
 obtain⟨rfl⟩:=D1 e;obtain⟨rfl⟩:=D1 f;refine enter 15 Tryz.func246 Y Y Y (Sr (bX Y λg1=>?_));refine bX Y λg2=>?_
 refine Pe Y (Dh ([bx g2 [(.string b.Var),(.string b.Value)],bx g1 [(.string a.Var),(.string a.Value)]]) Y (Cq (Sr (fl 1 GJ BK Y (fl 0 GJ BK Y (q1 Y (E5 Y Y Y) (Dx (R8 Y (λg=>?_) (λg=>?_)))))))))
 ·refine Sr (Pe Y (Ct (Xr (Rb Y Y ?_))))
  cases a;cases b;simp_all
 ·refine Sk (Cq (Sr (fl 1 KU BK Y (fl 0 KU BK Y (q1 Y (E5 Y Y Y) (Dx (R8 Y (λh=>?_) (λh=>?_))))))))
  ·refine Sr (Pe Y (Ct (Xr (Rb Y Y ?_))))
   cases a;cases b;simp_all
  ·refine Sk (Sr (Pe Y (Ct (Rb Y Y ?_))))
   cases a;cases b;simp_all
theorem ZP{w:World}{m:Value}{a:(List Fact)}{o:Value}{b:(List Fact)}(c:Gd.rd w [m] a)(d:Gd.rd w [o] b):Cy 196 [m,o] w (Val w (.bool (decide (a=b)))):=by
 have a1:=rM c;have a2:=rM d;refine enter 27 Tryz.func196 Y Y Y (Sr (Pe Y (Cq (Sr (p1 Y (dl B1 Y (AE c) (p1 Y (dl B1 Y (AE d) (Pe Y (Cn Y (λv=>?_) (λv=>?_)))))))))))
 ·refine Sr (Pe Y (Ct (Xr (Rb Y Y ?_))));simp;intro e;subst e;simp_all
 ·refine Sk (Cq (Sr (Pe Y (Cb (Cl (λm_ ac w'=>∃(k:Nat),(k<=a.length)/\(∀i,i<k->a[i]?=b[i]?)/\m_=a.length-k/\Fits ac 27 [(0,m),(1,o),(5,(nv k))]/\St w ([]) w') ?_ ?_)))))
  ·refine λac w' hf hs=>⟨_,0,?_,?_,Y,hf.wk Y,hs⟩
   ·omega
   ·intro i hi;omega
  ·rintro m_ ac w' ⟨k,hk,hi,rfl,hf,hs⟩;refine D.use ?_ hf hs;clear hf hs ac w';refine Cq (Sr (P2 Y Y (dl B1 Y (AE c) (Pe Y (Cd Y (λx=>?_) (λx=>?_))))))
   ·refine Sk (Cq (Cb (Cq (A0 mixed [8,9] (by kernel_rfl) (tK 8 [0,1] Y ?_)))));obtain⟨x5,p⟩:=sI a k;obtain⟨a3,at8,q⟩:=AC (n:=2) rfl c p;obtain⟨a4,rfl,r⟩:=AS q;have y:=rM r;refine Tk 2 Y Y (AJ (l:=a) (j:=k) B1 Y Y Y (λw' hs=>(rA hs c)) Y (lS p)) (Tk 3 Y Y (EX C3 Y Y at8) (tK 4 [4,5] Y ?_));obtain⟨a5,f⟩:=sI b k;obtain⟨z,s,g⟩:=AC (n:=2) rfl d f;obtain⟨a6,rfl,t⟩:=AS g;have a0:=rM t;refine Tk 6 Y Y (AJ (l:=b) (j:=k) B1 Y Y Y (λw' hs=>(rA hs d)) Y (lS f)) (Tk 7 Y Y (EX C3 Y Y s) (ty 8 Y Y (cv pC Y Y Y Y (λw' hs=>(ND (rA hs q) (rA hs g))) ?_)));refine tZ Y (tW 9 Y Y Y (tE (Xt (CN Y (λu=>?_) (λu=>?_)))))
    ·refine Sr (Pe Y (Ct (Xq (Xr (Xr (Xq (Xr (Rb Y Y ?_))))))));simp;intro e;subst e;simp_all
    ·refine Ck (Xb (Xt (Cr (p1 Y (ad (k+1) Y (Pe Y (λac w' hf hs=>⟨_,?_,k+1,?_,?_,Y,hf.wk Y,hs⟩)))))))
     ·omega
     ·omega
     ·refine DF hi ‹_› ‹_› ?_;simp_all
   ·refine Cx (Xx (Xx (Xe (Xt (Sr (Pe Y (Ct (Rb Y Y ?_))))))));simp;exact C7 (by omega) (λi h=>hi i (by omega))
theorem ZQ{w:World}{m:Value}{a:(List Pair)}{o:Value}{b:(List Pair)}(c:Gd.rd w [m] a)(d:Gd.rd w [o] b):Cy 197 [m,o] w (Val w (.bool (decide (a=b)))):=by
 have x:=rM c;have y:=rM d;refine enter 27 Tryz.func197 Y Y Y (Sr (Pe Y (Cq (Sr (p1 Y (dl CU Y (AE c) (p1 Y (dl CU Y (AE d) (Pe Y (Cn Y (λt=>?_) (λt=>?_)))))))))))
 ·refine Sr (Pe Y (Ct (Xr (Rb Y Y ?_))));simp;intro e;subst e;simp_all
 ·refine Sk (Cq (Sr (Pe Y (Cb (Cl (λm_ ac w'=>∃(k:Nat),(k<=a.length)/\(∀i,i<k->a[i]?=b[i]?)/\m_=a.length-k/\Fits ac 27 [(0,m),(1,o),(5,(nv k))]/\St w ([]) w') ?_ ?_)))))
  ·refine λac w' hf hs=>⟨_,0,?_,?_,Y,hf.wk Y,hs⟩
   ·omega
   ·intro i hi;omega
  ·rintro m_ ac w' ⟨k,hk,hi,rfl,hf,hs⟩;refine D.use ?_ hf hs;clear hf hs ac w';refine Cq (Sr (P2 Y Y (dl CU Y (AE c) (Pe Y (Cd Y (λu=>?_) (λu=>?_))))))
   ·refine Sk (Cq (Cb (Cq (A0 mixed [8,9] (by kernel_rfl) (tK 8 [0,1] Y ?_)))));obtain⟨x5,p⟩:=sI a k;obtain⟨z,at8,q⟩:=AC (n:=2) rfl c p;obtain⟨rfl⟩:=D1 q;refine Tk 2 Y Y (AJ (l:=a) (j:=k) CU Y Y Y (λw' hs=>(rA hs c)) Y (lS p)) (Tk 3 Y Y (EX M4 Y Y at8) (tK 4 [4,5] Y ?_));obtain⟨a0,f⟩:=sI b k;obtain⟨v,r,g⟩:=AC (n:=2) rfl d f;obtain⟨rfl⟩:=D1 g;refine Tk 6 Y Y (AJ (l:=b) (j:=k) CU Y Y Y (λw' hs=>(rA hs d)) Y (lS f)) (Tk 7 Y Y (EX M4 Y Y r) (ty 8 Y Y (cv A3u Y Y Y Y (λw' hs=>(dB (rA hs q) (rA hs g))) ?_)));refine tZ Y (tW 9 Y Y Y (tE (Xt (CN Y (λs=>?_) (λs=>?_)))))
    ·refine Sr (Pe Y (Ct (Xq (Xr (Xr (Xq (Xr (Rb Y Y ?_))))))));simp;intro e;subst e;simp_all
    ·refine Ck (Xb (Xt (Cr (p1 Y (ad (k+1) Y (Pe Y (λac w' hf hs=>⟨_,?_,k+1,?_,?_,Y,hf.wk Y,hs⟩)))))))
     ·omega
     ·omega
     ·refine DF hi ‹_› ‹_› ?_;simp_all
   ·refine Cx (Xx (Xx (Xe (Xt (Sr (Pe Y (Ct (Rb Y Y ?_))))))));simp;exact C7 (by omega) (λi h=>hi i (by omega))
theorem ZR{w:World}{d:List Value}{a:Match}{e:List Value}{b:Match}(l:Gd.rd w d a)(m:Gd.rd w e b):Cy 140 [(.agg d.toArray),(.agg e.toArray)] w (Val w (.bool (decide (a=b)))):=by
 obtain⟨p,q,rfl,f,g⟩:=FG l;have r:=rM f;have s:=rM g;obtain⟨t,u,rfl,h,c⟩:=FG m;have n:=rM h;have o:=rM c;refine enter 22 Tryz.func140 Y Y Y (Sr (bX Y λg13=>?_));refine bX Y λg14=>?_
 refine Pe Y (Dh ([bx g14 [(.string b.Rule),t,u],bx g13 [(.string a.Rule),p,q]]) Y (Cq (Sr (fl 1 LA BK Y (fl 0 LA BK Y (q1 Y (E5 Y Y Y) (Dx (R8 Y (λi=>?_) (λi=>?_)))))))))
 ·refine Sr (Pe Y (Ct (Xr (Rb Y Y ?_))))
  cases a;cases b;simp_all
 ·refine Sk (Cq (Sr (fl 1 HN HK Y (fl 0 HN HK Y (qv A3v Y (λw' hs=>(ZP (rA hs f) (rA hs h))) (Pe Y (CN Y (λj=>?_) (λj=>?_))))))))
  ·refine Sr (Pe Y (Ct (Xr (Rb Y Y ?_))))
   cases a;cases b;simp_all
  ·refine Sk (Cq (Sr (fl 1 Q3 Q4 Y (fl 0 Q3 Q4 Y (qv A3w Y (λw' hs=>(ZQ (rA hs g) (rA hs c))) (Pe Y (AH [21] Y (AG [] Y (CN Y (λk=>?_) (λk=>?_))))))))))
   ·refine Sr (Pe Y (Ct (Xr (Rb Y Y ?_))))
    cases a;cases b;simp_all
   ·refine Sk (Sr (Pe Y (Ct (Rb Y Y ?_))))
    cases a;cases b;simp_all
theorem WC{w:World}{d:List Value}{a:Choice}{e:List Value}{b:Choice}(f:Gd.rd w d a)(g:Gd.rd w e b):Cy 77 [(.agg d.toArray),(.agg e.toArray)] w (Val w (.bool (decide (a=b)))):=by
 obtain⟨y,z,u5,rfl,u,v,h⟩:=BF f;have a3:=rM u;have a4:=rM v;have a5:=rM h;have i:=AQ f;obtain⟨j,k,x,rfl,l,m,c⟩:=BF g;have a0:=rM l;have a1:=rM m;have a2:=rM c;have n:=AQ g;refine enter 32 Tryz.func77 Y Y Y (Sr (bX Y λg21=>?_));refine bX Y λg22=>?_
 refine Pe Y (Dh ([bx g22 [(.string b.Match.Rule),j,k,(iv b.Priority),x,(iv b.Specific),(iv b.Order)],bx g21 [(.string a.Match.Rule),y,z,(iv a.Priority),u5,(iv a.Specific),(iv a.Order)]]) Y (Cq (Sr (q1 Y (Db F7 Y Y (q:=0) Y) (q1 Y (H2 (es:=[(.string a.Match.Rule),y,z]) 1 TV Y Y Y Y) (q1 Y (Db F7 Y Y (q:=0) Y) (q1 Y (H2 (es:=[(.string b.Match.Rule),j,k]) 0 TV Y Y Y Y) (qv A3x Y (λw' hs=>(ZR (rA hs i) (rA hs n))) (Pe Y (CN Y (λo=>?_) (λo=>?_)))))))))))
 ·refine Sr (Pe Y (Ct (Xr (Rb Y Y ?_))))
  cases a;cases b;simp_all
 ·refine Sk (Cq (Sr (fl 1 J4 CJ Y (fl 0 J4 CJ Y (Pe Y (Cn Y (λp=>?_) (λp=>?_)))))))
  ·refine Sr (Pe Y (Ct (Xr (Rb Y Y ?_))))
   cases a;cases b;simp_all
  ·refine Sk (Cq (Sr (fl 1 IL H7 Y (fl 0 IL H7 Y (qv zW Y (λw' hs=>(SE (rA hs h) (rA hs c))) (Pe Y (AH [2,3,21] Y (CN Y (λr=>?_) (λr=>?_)))))))))
   ·refine Sr (Pe Y (Ct (Xr (Rb Y Y ?_))))
    cases a;cases b;simp_all
   ·refine Sk (Cq (Sr (fl 1 HO CJ Y (fl 0 HO CJ Y (Pe Y (Cn Y (λs=>?_) (λs=>?_)))))))
    ·refine Sr (Pe Y (Ct (Xr (Rb Y Y ?_))))
     cases a;cases b;simp_all
    ·refine Sk (Cq (Sr (fl 1 HP CJ Y (fl 0 HP CJ Y (Pe Y (Cn Y (λt=>?_) (λt=>?_)))))))
     ·refine Sr (Pe Y (Ct (Xr (Rb Y Y ?_))))
      cases a;cases b;simp_all
     ·refine Sk (Sr (Pe Y (Ct (Rb Y Y ?_))))
      cases a;cases b;simp_all
theorem KH{w:World}{m:Value}{a:(List Choice)}{o:Value}{b:(List Choice)}(c:Gd.rd w [m] a)(f:Gd.rd w [o] b):Cy 31 [m,o] w (Val w (.bool (decide (a=b)))):=by
 have ab:=rM c;have ae:=rM f;refine enter 27 Tryz.func31 Y Y Y (Sr (Pe Y (Cq (Sr (p1 Y (dl EV Y (AE c) (p1 Y (dl EV Y (AE f) (Pe Y (Cn Y (λa0=>?_) (λa0=>?_)))))))))))
 ·refine Sr (Pe Y (Ct (Xr (Rb Y Y ?_))));simp;intro e;subst e;simp_all
 ·refine Sk (Cq (Sr (Pe Y (Cb (Cl (λm_ ac w'=>∃(k:Nat),(k<=a.length)/\(∀i,i<k->a[i]?=b[i]?)/\m_=a.length-k/\Fits ac 27 [(0,m),(1,o),(5,(nv k))]/\St w ([]) w') ?_ ?_)))))
  ·refine λac w' hf hs=>⟨_,0,?_,?_,Y,hf.wk Y,hs⟩
   ·omega
   ·intro i hi;omega
  ·rintro m_ ac w' ⟨k,hk,hi,rfl,hf,hs⟩;refine D.use ?_ hf hs;clear hf hs ac w';refine Cq (Sr (P2 Y Y (dl EV Y (AE c) (Pe Y (Cd Y (λa1=>?_) (λa1=>?_))))))
   ·refine Sk (Cq (Cb (Cq (A0 mixed [8,9] (by kernel_rfl) (tK 8 [0,1] Y ?_)))));obtain⟨x5,q⟩:=sI a k;obtain⟨af,at8,p⟩:=AC (n:=7) rfl c q;obtain⟨ag,ah,ai,rfl,r,s,t⟩:=BF p;have a2:=rM r;have a3:=rM s;have a4:=rM t;have a5:=AQ p;refine Tk 2 Y Y (AJ (l:=a) (j:=k) EV Y Y Y (λw' hs=>(rA hs c)) Y (lS q)) (Tk 3 Y Y (EX IM Y Y at8) (tK 4 [4,5] Y ?_));obtain⟨aj,g⟩:=sI b k;obtain⟨a6,u,d⟩:=AC (n:=7) rfl f g;obtain⟨ak,al,am,rfl,v,x,y⟩:=BF d;have a7:=rM v;have a8:=rM x;have a9:=rM y;have aa:=AQ d;refine Tk 6 Y Y (AJ (l:=b) (j:=k) EV Y Y Y (λw' hs=>(rA hs f)) Y (lS g)) (Tk 7 Y Y (EX IM Y Y u) (ty 8 Y Y (cv A6u Y Y Y Y (λw' hs=>(WC (rA hs p) (rA hs d))) ?_)));refine tZ Y (tW 9 Y Y Y (tE (Xt (CN Y (λz=>?_) (λz=>?_)))))
    ·refine Sr (Pe Y (Ct (Xq (Xr (Xr (Xq (Xr (Rb Y Y ?_))))))));simp;intro e;subst e;simp_all
    ·refine Ck (Xb (Xt (Cr (p1 Y (ad (k+1) Y (Pe Y (λac w' hf hs=>⟨_,?_,k+1,?_,?_,Y,hf.wk Y,hs⟩)))))))
     ·omega
     ·omega
     ·refine DF hi ‹_› ‹_› ?_;simp_all
   ·refine Cx (Xx (Xx (Xe (Xt (Sr (Pe Y (Ct (Rb Y Y ?_))))))));simp;exact C7 (by omega) (λi h=>hi i (by omega))
theorem UP(w0:World)(h:List Chunk)(w:World)(b:Value)(a:(List Fact))(k:Int)(h0:0<=k)(h1:k+AI IE a<=4611686018427387904)(j:St w0 (ov [b] (a:(List Fact))::h) w):Cy 78 [b,(iv k)] w (λe w'=>e= .returned (iv (k+AI IE a))/\St w0 (ov [b] (CP ZO IE k a:(List Fact))::h) w'):=by
 have o:=rM (rO (k:=0) j rfl);refine CX 28 Tryz.func78 Y Y Y j (Sr (Pe Y (Dh (ov [b] (a:(List Fact))::h) Y (Cq (Sr (Pe Y (Cb (Cl (λm_ ac w'=>∃(i:Nat),∃(kk:Int),(i<=a.length)/\(kk=k+AI IE (a.take i))/\m_=a.length-i/\Fits ac 28 [(0,b),(1,(iv kk)),(5,(nv i))]/\St w0 (ov [b] (A5 ZO IE k a i:(List Fact))::h) w') ?_ ?_))))))))
 ·refine A3 0 Y (show(a:(List Fact))=A5 ZO IE k a 0 from by rw[E0]) (λac w' hf hs=>⟨_,0,k,?_,?_,Y,hf.wk Y,hs⟩)
  ·omega
  ·simp[AI]
 ·rintro m_ ac w' ⟨i,kk,hi,hk,rfl,hf,hs⟩;refine D.use ?_ hf hs;clear hf hs ac w';have hcl:=FP (f:=ZO) (c:=IE) (k:=k) hi;have htk:=AV a IE i;refine Cq (Sr (P2 Y Y (q1 Y (B7 0 B1 Y Y Y) (Pe Y (Dh (_::h) Y (Cd Y (λl=>?_) (λl=>?_)))))))
  ·refine Sk (Cq (Cb (Sr (P3 Y Y Y (qv L6 Y (λw' hs=>(BH (by omega))) ?_)))));obtain⟨d,g⟩:=sI (A5 ZO IE k a i) i;refine K8 g λp=>?_
   refine Dp (λw' hs=>EZ (rO (k:=0) hs Y)) ?_;rintro⟨m,rfl,q⟩;refine q1 Y (EL 1 B1 Y Y Y Y Y) ?_;have hstep:=JV hi g hk;have hcc:IE d=1+d.Args.length:=rfl;refine q1 Y (B2 EH Y Y) (BB (α:=ByteArray) (β:=(List ByteArray)) (c1:=[(.string d.Rel)]) (c2:=[m]) (x:=d.Rel) (y:=(d.Args)) Y Y (BZ [] 1 Y (li Y (sh (n:=2) (f:=0) 1 Y VI Y Y Y Y Y Y Y (by simp) ?_))));refine Dx (Sr (p1 Y (q1 Y (DW Y Y Y Y (by omega)) (Pe Y (Cr (P2 Y Y (q1 Y (EL 1 B1 Y Y Y Y Y) (q1 Y (B2 BU Y Y) (q1 Y (lh (n:=2) 1 Y B5 Y Y Y Y) (p1 Y (li Y (cm pZ Y Y Y Y (λw' hs=>FR _ _ w' m d.Args (kk+1) (by omega) (by omega) hs) ?_))))))))))));refine p1 Y (De (Xb (Xt (AH [0,1,5] Y (Cr (p1 Y (ad (i+1) Y (Pe Y (S4 (r:=(⟨(B4 kk),J8 (kk+1) d.Args⟩:Fact)) (OM (A3 0 Y (show((A5 ZO IE k a i).set i (⟨(B4 kk),J8 (kk+1) d.Args⟩:Fact):(List Fact))=A5 ZO IE k a (i+1) from by exact MB hi g hk Y) (λac w' hf hs=>⟨_,?_,i+1,((kk+1)+d.Args.length),?_,?_,Y,hf.wk Y,hs⟩))))))))))))
   ·omega
   ·omega
   ·omega
  ·refine Cx (Xx (Xx (Xe (Xt (Sr (P2 Y Y (Dx (Ct (A3 0 Y (show(A5 ZO IE k a i:(List Fact))=CP ZO IE k a from by exact E1 (by omega)) (FV Y Y λw' hs=>⟨congrArg (λz=>Ending.returned (Value.int .i64 z)) ?_,hs⟩))))))))));show(kk:Int)=k+AI IE a;rw[List.take_of_length_le (by omega)] at hk;exact hk
theorem UQ{w:World}{f:Value}{a:(List Fact)}{k:Int}(b:Gd.rd w [f] a)(h0:0<=k)(h1:k+AI IE a<=4611686018427387904)(s:a=CP ZO IE k a):Cy 81 [f,(iv k)] w (Val w (iv (k+AI IE a))):=by
 have t:=rM b;refine enter 32 Tryz.func81 Y Y Y (Sr (Pe Y (Cq (Sr (Pe Y (Cb (Cl (λm_ ac w'=>∃(i:Nat),∃(kk:Int),(i<=a.length)/\(kk=k+AI IE (a.take i))/\m_=a.length-i/\Fits ac 32 [(0,f),(1,(iv kk)),(5,(nv i))]/\St w ([]) w') ?_ ?_)))))))
 ·refine λac w' hf hs=>⟨_,0,k,?_,?_,Y,hf.wk Y,hs⟩
  ·omega
  ·simp[AI]
 ·rintro m_ ac w' ⟨i,kk,hi,hk,rfl,hf,hs⟩;refine D.use ?_ hf hs;clear hf hs ac w';have htk:=AV a IE i;refine Cq (Sr (P2 Y Y (dl B1 Y (AE b) (Pe Y (Cd Y (λp=>?_) (λp=>?_))))))
  ·refine Sk (Cq (Cb (Cq (Cq (A0 mixed [] (by kernel_rfl) (tK 6 [0,1] Y ?_))))));obtain⟨g,d⟩:=sI a i;obtain⟨u,h,q⟩:=AC (n:=2) rfl b d;obtain⟨v,rfl,e⟩:=AS q;have r:=rM e;refine Tk 2 Y Y (AJ (l:=a) (j:=i) B1 Y Y Y (λw' hs=>(rA hs b)) Y (lS d)) ?_;have hfx:=M7 s d;rw[<-hk] at hfx;have hF0:g.Rel=B4 kk:=congrArg (λy=>y.Rel) hfx;have hF1:g.Args=J8 (kk+1) g.Args:=congrArg (λy=>y.Args) hfx;have hstep:=QG (c:=IE) d hk;have hcc:IE g=1+g.Args.length:=rfl;refine Tk 3 Y Y (B2 EH Y Y) (Tk 4 Y Y (lr BK Y Y h Y) (tR 5 Y Y (ty 6 Y Y (cv L6 Y Y Y Y (λw' hs=>(BH (by omega))) ?_))));refine tS (λ_ hs=>hs) (Tk 7 Y Y (E5 Y Y Y) (tE (Xt (R8 Y (λm=>?_) (λm=>?_)))))
   ·refine Sr (Pe Y (Ct (Xr (Xq (Xr (Xr (Xq (Xr (Ri Y Y ?_)))))))));show((-1):Int)=_;exfalso;contradiction
   ·refine Sk (Sr (p1 Y (q1 Y (DW Y Y Y Y (by omega)) (Pe Y (Sr (P2 Y Y (q1 Y (AJ (l:=a) (j:=i) B1 Y Y Y (λw' hs=>(rA hs b)) Y (lS d)) (q1 Y (B2 BU Y Y) (q1 Y (lr B5 Y Y h Y) (p1 Y (qv A3y Y (λw' hs=>(RF (rA hs e) (by omega) (by omega) ‹_›)) (Pe Y (AH [0,1,5] Y (Sr (P2 Y Y ?_)))))))))))))));refine Dx (Cd Y (λo=>?_) (λo=>?_))
    ·refine Sr (Pe Y (Ct (Xq (Xr (Xr (Xq (Xr (Ri Y Y ?_))))))));show((-1):Int)=_;exfalso;omega
    ·refine Ck (Xb (Xt (Cr (p1 Y (ad (i+1) Y (Pe Y (λac w' hf hs=>⟨_,?_,i+1,((kk+1)+g.Args.length),?_,?_,Y,hf.wk Y,hs⟩)))))))
     ·omega
     ·omega
     ·omega
  ·refine Cx (Xx (Xx (Xe (Xt (Sr (P2 Y Y (Dx (Ct (Ri Y Y ?_)))))))));show(kk:Int)=_;rw[List.take_of_length_le (by omega)] at hk;exact hk
theorem UR(w0:World)(g:List Chunk)(w:World)(b:Value)(a:(List Pair))(k:Int)(h0:0<=k)(h1:k+AI JF a<=4611686018427387904)(h:St w0 (ov [b] (a:(List Pair))::g) w):Cy 79 [b,(iv k)] w (λe w'=>e= .returned (iv (k+AI JF a))/\St w0 (ov [b] (CP dA JF k a:(List Pair))::g) w'):=by
 have m:=rM (rO (k:=0) h rfl);refine CX 29 Tryz.func79 Y Y Y h (Sr (Pe Y (Dh (ov [b] (a:(List Pair))::g) Y (Cq (Sr (Pe Y (Cb (Cl (λm_ ac w'=>∃(i:Nat),∃(kk:Int),(i<=a.length)/\(kk=k+AI JF (a.take i))/\m_=a.length-i/\Fits ac 29 [(0,b),(1,(iv kk)),(5,(nv i))]/\St w0 (ov [b] (A5 dA JF k a i:(List Pair))::g) w') ?_ ?_))))))))
 ·refine A3 0 Y (show(a:(List Pair))=A5 dA JF k a 0 from by rw[E0]) (λac w' hf hs=>⟨_,0,k,?_,?_,Y,hf.wk Y,hs⟩)
  ·omega
  ·simp[AI]
 ·rintro m_ ac w' ⟨i,kk,hi,hk,rfl,hf,hs⟩;refine D.use ?_ hf hs;clear hf hs ac w';have hcl:=FP (f:=dA) (c:=JF) (k:=k) hi;have htk:=AV a JF i;refine Cq (Sr (P2 Y Y (q1 Y (B7 0 CU Y Y Y) (Pe Y (Dh (_::g) Y (Cd Y (λl=>?_) (λl=>?_)))))))
  ·refine Sk (Cq (Cb (Sr (P3 Y Y Y (qv L6 Y (λw' hs=>(BH (by omega))) ?_)))));obtain⟨j,d⟩:=sI (A5 dA JF k a i) i;refine K8 d λo=>?_
   refine Dp (λw' hs=>fL (rO (k:=0) hs Y)) ?_;rintro⟨rfl⟩;refine q1 Y (EL 1 CU Y Y Y Y Y) ?_;have hstep:=JV hi d hk;have hcc:JF j=2:=rfl;refine q1 Y (B2 GJ Y Y) (BB (α:=ByteArray) (β:=ByteArray) (c1:=[(.string j.Var)]) (c2:=[(.string j.Value)]) (x:=j.Var) (y:=(j.Value)) Y Y (BZ [] 1 Y (BZ [] 1 Y (li Y (sh (n:=2) (f:=0) 0 Y VI Y Y Y Y Y Y Y (by simp) ?_)))));refine Dx (Sr (p1 Y (q1 Y (DW Y Y Y Y (by omega)) (Pe Y (Sr (P3 Y Y Y (qv L6 Y (λw' hs=>(BH (by omega))) (q1 Y (EL 0 CU Y Y Y Y Y) (q1 Y (B2 KU Y Y) (li Y (sh (n:=2) (f:=1) 0 Y VI Y Y Y Y Y Y Y (by simp) ?_)))))))))));refine Dx (AH [0,1,5] Y (Cr (p1 Y (q1 Y (DW Y Y Y Y (by omega)) (p1 Y (De (Xb (Xt (Cr (p1 Y (ad (i+1) Y (Pe Y (H4 (r:=(⟨(B4 kk),(B4 (kk+1))⟩:Pair)) (OM (A3 0 Y (show((A5 dA JF k a i).set i (⟨(B4 kk),(B4 (kk+1))⟩:Pair):(List Pair))=A5 dA JF k a (i+1) from by exact MB hi d hk Y) (λac w' hf hs=>⟨_,?_,i+1,((kk+1)+1),?_,?_,Y,hf.wk Y,hs⟩))))))))))))))))
   ·omega
   ·omega
   ·omega
  ·refine Cx (Xx (Xx (Xe (Xt (Sr (P2 Y Y (Dx (Ct (A3 0 Y (show(A5 dA JF k a i:(List Pair))=CP dA JF k a from by exact E1 (by omega)) (FV Y Y λw' hs=>⟨congrArg (λz=>Ending.returned (Value.int .i64 z)) ?_,hs⟩))))))))));show(kk:Int)=k+AI JF a;rw[List.take_of_length_le (by omega)] at hk;exact hk
theorem US{w:World}{e:Value}{a:(List Pair)}{k:Int}(b:Gd.rd w [e] a)(h0:0<=k)(h1:k+AI JF a<=4611686018427387904)(q:a=CP dA JF k a):Cy 82 [e,(iv k)] w (Val w (iv (k+AI JF a))):=by
 have r:=rM b;refine enter 33 Tryz.func82 Y Y Y (Sr (Pe Y (Cq (Sr (Pe Y (Cb (Cl (λm_ ac w'=>∃(i:Nat),∃(kk:Int),(i<=a.length)/\(kk=k+AI JF (a.take i))/\m_=a.length-i/\Fits ac 33 [(0,e),(1,(iv kk)),(5,(nv i))]/\St w ([]) w') ?_ ?_)))))))
 ·refine λac w' hf hs=>⟨_,0,k,?_,?_,Y,hf.wk Y,hs⟩
  ·omega
  ·simp[AI]
 ·rintro m_ ac w' ⟨i,kk,hi,hk,rfl,hf,hs⟩;refine D.use ?_ hf hs;clear hf hs ac w';have htk:=AV a JF i;refine Cq (Sr (P2 Y Y (dl CU Y (AE b) (Pe Y (Cd Y (λg=>?_) (λg=>?_))))))
  ·refine Sk (Cq (Cb (Cq (Cq (A0 mixed [] (by kernel_rfl) (tK 6 [0,1] Y ?_))))));obtain⟨h,d⟩:=sI a i;obtain⟨s,f,m⟩:=AC (n:=2) rfl b d;obtain⟨rfl⟩:=D1 m;refine Tk 2 Y Y (AJ (l:=a) (j:=i) CU Y Y Y (λw' hs=>(rA hs b)) Y (lS d)) ?_;have hfx:=M7 q d;rw[<-hk] at hfx;have hF0:h.Var=B4 kk:=congrArg (λy=>y.Var) hfx;have hF1:h.Value=B4 (kk+1):=congrArg (λy=>y.Value) hfx;have hstep:=QG (c:=JF) d hk;have hcc:JF h=2:=rfl;refine Tk 3 Y Y (B2 GJ Y Y) (Tk 4 Y Y (lr BK Y Y f Y) (tR 5 Y Y (ty 6 Y Y (cv L6 Y Y Y Y (λw' hs=>(BH (by omega))) ?_))));refine tS (λ_ hs=>hs) (Tk 7 Y Y (E5 Y Y Y) (tE (Xt (R8 Y (λo=>?_) (λo=>?_)))))
   ·refine Sr (Pe Y (Ct (Xr (Xq (Xr (Xr (Xq (Xr (Ri Y Y ?_)))))))));show((-1):Int)=_;exfalso;contradiction
   ·refine Sk (Sr (p1 Y (q1 Y (DW Y Y Y Y (by omega)) (Pe Y (Cq (Cq (A0 mixed [] (by kernel_rfl) (tK 6 [0,1] Y (Tk 2 Y Y (AJ (l:=a) (j:=i) CU Y Y Y (λw' hs=>(rA hs b)) Y (lS d)) (Tk 3 Y Y (B2 KU Y Y) (Tk 4 Y Y (lr BK Y Y f Y) (tR 5 Y Y (ty 6 Y Y (cv L6 Y Y Y Y (λw' hs=>(BH (by omega))) ?_))))))))))))));refine tS (λ_ hs=>hs) (Tk 7 Y Y (E5 Y Y Y) (tE (Xt (AH [0,1,5,29] Y (R8 Y (λp=>?_) (λp=>?_))))))
    ·refine Sr (Pe Y (Ct (Xr (Xq (Xr (Xr (Xq (Xr (Ri Y Y ?_)))))))));show((-1):Int)=_;exfalso;contradiction
    ·refine Sk (Cr (p1 Y (q1 Y (DW Y Y Y Y (by omega)) (p1 Y (De (Xb (Xt (Cr (p1 Y (ad (i+1) Y (Pe Y (λac w' hf hs=>⟨_,?_,i+1,((kk+1)+1),?_,?_,Y,hf.wk Y,hs⟩))))))))))))
     ·omega
     ·omega
     ·omega
  ·refine Cx (Xx (Xx (Xe (Xt (Sr (P2 Y Y (Dx (Ct (Ri Y Y ?_)))))))));show(kk:Int)=_;rw[List.take_of_length_le (by omega)] at hk;exact hk
end Go.Sy.Cho1
