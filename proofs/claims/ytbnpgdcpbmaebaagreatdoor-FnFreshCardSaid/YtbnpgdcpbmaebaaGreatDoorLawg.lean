/-
  Contracts of functions of the program, walked (printed by a program of ours).
  Conditions: those that each theorem states.
-/
import Derived.Test.YtbnpgdcpbmaebaaGreatDoorFct
import Derived.Test.YtbnpgdcpbmaebaaGreatDoorDrw3
import Derived.Test.YtbnpgdcpbmaebaaGreatDoorMat3
import Derived.Test.YtbnpgdcpbmaebaaGreatDoorPdqs
import Derived.Test.YtbnpgdcpbmaebaaGreatDoorEqp
import Derived.Test.YtbnpgdcpbmaebaaGreatDoorCho2
set_option linter.unusedVariables false
set_option maxRecDepth 20000
namespace Go.Sy.Lawg
open Go Go.RowKit Go.Proofs Go.Sy
theorem C4c:C4J Tryz.prog 155=true:=by kernel_rfl
open Go.Sy.Bel1 Go.Sy.Ev1 Go.Sy.Fmt1 Go.Sy.Eng1 Go.Sy.Eng2 Go.Sy.Eng3 Go.Sy.Num1 Go.Sy.Num2 Go.Sy.Fal2 Go.Sy.Cho2 Go.Sy.Mat1 Go.Sy.Num3 Go.Sy.Mat2 Go.Sy.Cmp2 Go.Sy.Mat3 Go.Sy.Par1 Go.Sy.Drw1 Go.Sy.Drw2 Go.Sy.Ev3 Go.Sy.Mat3 Go.Sy.Drw3
theorem B9a{w:World}{a:Value}{code:(List UInt8)}(b:Gd.rd w [a] code):Cy 7 [a] w (Val w (.bool (decide (4096<code.length)))):=by
 have c:=rM b;refine enter 6 Tryz.func7 Y Y Y (Sr (Pe Y (Sr (p1 Y (dl lU Y (AE b) (P2 Y Y (Dx (Ct (Rb Y Y ?_)))))))));show((decide ((4096:Int)<((code.length:Nat):Int))):Bool)=_;simp;omega
theorem C2B(w e:World)(m:E4 e w)(c:Value)(rules:(List Rule))(d:Value)(facts:(List Fact))(a:Gd.rd e [c] rules)(b:Gd.rd e [d] facts)(y:DD BG rules<=1048576)(i:Tb w):Cy 26 [c,d] w (nO e w (DX rules facts:List Match)):=by
 have u:=rM a;have v:=rM b;refine CX 16 Tryz.func26 Y Y Y (GL w e) (Sr (Pe Y (Dh ([fz e e]) Y (Cq (Sr (p1 Y (qv B3t Y (λw' hs=>(OS (B0 0 m hs Y a) (by first|assumption|omega|(unfold ED at*;split at* <;>omega)))) (P2 Y Y (JQ 8 Y Y (λn=>?_) (λn=>?_))))))))))
 ·refine n1 Y (n1 Y (n1 Y (Pe Y (GF Y (Sr (Pe Y (Ct (Xr ?_))))))));have o:Gd.rd e [(.slice none 0 0)] (DX rules facts:List Match):=(show([]:List Match)=DX rules facts from by first|exact C4H ‹_› ‹_›|exact C1e (.inl ‹_›)|exact C1e (.inr ‹_›))▸O4;exact FV rfl rfl λw' hs=>⟨[(.slice none 0 0)],e,rfl,H3 (k:=0) hs rfl (E4.refl _),o⟩
 ·refine p1 Y (qv A6d Y (λw' hs=>(WB (B0 0 m hs Y b) (Tb.ext i hs.bel))) (P2 Y Y (Dx (CN Y (λp=>?_) (λp=>?_)))))
  ·refine Sr (Pe Y (Ct (Xr ?_)));have q:Gd.rd e [(.slice none 0 0)] (DX rules facts:List Match):=(show([]:List Match)=DX rules facts from by first|exact C4H ‹_› ‹_›|exact C1e (.inl ‹_›)|exact C1e (.inr ‹_›))▸O4;exact FV rfl rfl λw' hs=>⟨[(.slice none 0 0)],e,rfl,H3 (k:=0) hs rfl (E4.refl _),q⟩
  ·refine Sk (Sr (P2 Y Y (li Y (czt (α:=List Match) A3l Y Y Y Y m (λw' hsb hx_=>S3 w' _ hsb c rules d facts a b (by first|assumption|omega) (by first|assumption|omega) (Tb.ext i hx_)) λx j f g=>?_))));have r:=Gd.rd_sub f a;have s:=Gd.rd_sub f b;obtain⟨h,rfl⟩:=CL g;have t:=rM g;refine MS 15 (v':=h) Y Y Y (Pe Y (Ct ?_));have l:Gd.rd j [h] (DX rules facts:List Match):=(show(GE rules facts:List Match)=DX rules facts from by first|exact C4H ‹_› ‹_›|exact C1e (.inl ‹_›)|exact C1e (.inr ‹_›))▸g;exact FV rfl rfl λw' hs=>⟨[h],j,rfl,H3 (k:=0) hs rfl f,l⟩
theorem C3u{w:World}{m:Value}{a:(List Fact)}{o:Value}{b:(List Fact)}(c:Gd.rd w [m] a)(d:Gd.rd w [o] b):Cy 161 [m,o] w (Val w (.bool (decide (a=b)))):=by
 have a1:=rM c;have a2:=rM d;refine enter 27 Tryz.func161 Y Y Y (Sr (Pe Y (Cq (Sr (p1 Y (dl C1F Y (AE c) (p1 Y (dl C1F Y (AE d) (Pe Y (Cn Y (λv=>?_) (λv=>?_)))))))))))
 ·refine Sr (Pe Y (Ct (Xr (Rb Y Y ?_))));simp;intro e;subst e;simp_all
 ·refine Sk (Cq (Sr (Pe Y (Cb (Cl (λm_ ac w'=>∃(k:Nat),(k<=a.length)/\(∀i,i<k->a[i]?=b[i]?)/\m_=a.length-k/\Fits ac 27 [(0,m),(1,o),(5,(nv k))]/\St w ([]) w') ?_ ?_)))))
  ·refine λac w' hf hs=>⟨_,0,?_,?_,Y,hf.wk Y,hs⟩
   ·first|assumption|omega|simp
   ·intro i hi;omega
  ·rintro m_ ac w' ⟨k,hk,hi,rfl,hf,hs⟩;refine D.use ?_ hf hs;clear hf hs ac w';refine Cq (Sr (P2 Y Y (dl C1F Y (AE c) (Pe Y (Cd Y (λx=>?_) (λx=>?_))))))
   ·refine Sk (Cq (Cb (Cq (A0 mixed [8,9] (by kernel_rfl) (tK 8 [0,1] Y ?_)))));obtain⟨x5,p⟩:=sI a k;obtain⟨a3,at8,q⟩:=AC (n:=2) rfl c p;obtain⟨a4,rfl,r⟩:=AS q;have y:=rM r;refine Tk 2 Y Y (AJ (l:=a) (j:=k) C1F Y Y Y (λw' hs=>(rA hs c)) Y (lS p)) (Tk 3 Y Y (EX B4Z Y Y at8) (tK 4 [4,5] Y ?_));obtain⟨a5,f⟩:=sI b k;obtain⟨z,s,g⟩:=AC (n:=2) rfl d f;obtain⟨a6,rfl,t⟩:=AS g;have a0:=rM t;refine Tk 6 Y Y (AJ (l:=b) (j:=k) C1F Y Y Y (λw' hs=>(rA hs d)) Y (lS f)) (Tk 7 Y Y (EX B4Z Y Y s) (ty 8 Y Y (cv L6 Y Y Y Y (λw' hs=>(cJ (rA hs q) (rA hs g))) ?_)));refine tZ Y (tW 9 Y Y Y (tE (Xt (CN Y (λu=>?_) (λu=>?_)))))
    ·refine Sr (Pe Y (Ct (Xq (Xr (Xr (Xq (Xr (Rb Y Y ?_))))))));simp;intro e;subst e;simp_all
    ·refine Ck (Xb (Xt (Cr (p1 Y (ad (k+1) Y (Pe Y (λac w' hf hs=>⟨_,?_,k+1,?_,?_,Y,hf.wk Y,hs⟩)))))))
     ·omega
     ·first|assumption|omega|simp
     ·refine DF hi ‹_› ‹_› ?_;first|(simp_all;done)|(apply Fact.mk_eq<;>simp_all)
   ·refine Cx (Xx (Xx (Xe (Xt (Sr (Pe Y (Ct (Rb Y Y ?_))))))));simp;exact C7 (by omega) (λi h=>hi i (by omega))
theorem C1a{w:World}{g:Value}{a:(List Pair)}{m:Value}{b:(List Pair)}(c:Gd.rd w [g] a)(d:Gd.rd w [m] b):Cy 162 [g,m] w (Val w (.bool (decide (a=b)))):=by
 have x:=rM c;have y:=rM d;refine enter 26 Tryz.func162 Y Y Y (Sr (Pe Y (Cq (Sr (p1 Y (dl C1L Y (AE c) (p1 Y (dl C1L Y (AE d) (Pe Y (Cn Y (λr=>?_) (λr=>?_)))))))))))
 ·refine Sr (Pe Y (Ct (Xr (Rb Y Y ?_))));simp;intro e;subst e;simp_all
 ·refine Sk (Cq (Sr (Pe Y (Cb (Cl (λm_ ac w'=>∃(k:Nat),(k<=a.length)/\(∀i,i<k->a[i]?=b[i]?)/\m_=a.length-k/\Fits ac 26 [(0,g),(1,m),(5,(nv k))]/\St w ([]) w') ?_ ?_)))))
  ·refine λac w' hf hs=>⟨_,0,?_,?_,Y,hf.wk Y,hs⟩
   ·first|assumption|omega|simp
   ·intro i hi;omega
  ·rintro m_ ac w' ⟨k,hk,hi,rfl,hf,hs⟩;refine D.use ?_ hf hs;clear hf hs ac w';refine Cq (Sr (P2 Y Y (dl C1L Y (AE c) (Pe Y (Cd Y (λs=>?_) (λs=>?_))))))
   ·refine Sk (Cq (Cb (Cq (A0 mixed [] (by kernel_rfl) (tK 7 [0,1] Y ?_)))));obtain⟨x5,o⟩:=sI a k;obtain⟨z,at8,t⟩:=AC (n:=2) rfl c o;obtain⟨rfl⟩:=D1 t;refine Tk 2 Y Y (AJ (l:=a) (j:=k) C1L Y Y Y (λw' hs=>(rA hs c)) Y (lS o)) (Tk 3 Y Y (EX B6J Y Y at8) (tK 3 [4,5] Y ?_));obtain⟨a0,f⟩:=sI b k;obtain⟨v,p,q⟩:=AC (n:=2) rfl d f;obtain⟨rfl⟩:=D1 q;refine Tk 6 Y Y (AJ (l:=b) (j:=k) C1L Y Y Y (λw' hs=>(rA hs d)) Y (lS f)) (Tk 7 Y Y (EX B6J Y Y p) (Tk 8 Y Y (C4e C4c Y Y Y) (tE (Xt (Ci _ Y (λu=>?_) (λu=>?_))))))
    ·refine Sr (Pe Y (Ct (Xq (Xr (Xr (Xq (Xr (Rb Y Y ?_))))))));simp;intro e;subst e;simp_all
    ·refine Ck (Xb (Xt (Cr (p1 Y (ad (k+1) Y (Pe Y (λac w' hf hs=>⟨_,?_,k+1,?_,?_,Y,hf.wk Y,hs⟩)))))))
     ·omega
     ·first|assumption|omega|simp
     ·refine DF hi ‹_› ‹_› ?_;first|(simp_all;done)|(apply Pair.mk_eq<;>simp_all)
   ·refine Cx (Xx (Xx (Xe (Xt (Sr (Pe Y (Ct (Rb Y Y ?_))))))));simp;exact C7 (by omega) (λi h=>hi i (by omega))
theorem C3v{w:World}{d:List Value}{a:Match}{e:List Value}{b:Match}(j:Gd.rd w d a)(k:Gd.rd w e b):Cy 91 [(.agg d.toArray),(.agg e.toArray)] w (Val w (.bool (decide (a=b)))):=by
 obtain⟨o,p,rfl,f,g⟩:=FG j;have q:=rM f;have r:=rM g;obtain⟨s,t,rfl,h,c⟩:=FG k;have m:=rM h;have n:=rM c;refine enter 24 Tryz.func91 Y Y Y (Sr (bX Y λg13=>?_));refine bX Y λg14=>?_
 refine Pe Y (Dh ([bx g14 [(.string b.Rule),s,t],bx g13 [(.string a.Rule),o,p]]) Y (Sr (fl 1 C0J BK Y (fl 0 C0J BK Y (q1 Y (DO Y Y Y) (p1 Y (EY 10 Y Y (λi=>?_) (λi=>?_))))))))
 ·refine fl 1 B7j B7Y Y (fl 0 B7j B7Y Y (qv A3t Y (λw' hs=>(C3u (rA hs f) (rA hs h))) (P2 Y Y (gs 17 Y Y (λl=>?_) (λl=>?_)))))
  ·refine fl 1 B8n B7K Y (fl 0 B8n B7K Y (qv qA Y (λw' hs=>(C1a (rA hs g) (rA hs c))) (P2 Y Y (Dx (Ct (Rb Y Y ?_))))));show((decide (a.Binding=b.Binding)):Bool)=_
   cases a;cases b;simp_all
  ·refine n1 Y (n1 Y (n1 Y (n1 Y (n1 Y (P2 Y Y (Dx (Ct (Rb Y Y ?_))))))))
   cases a;cases b;simp_all
 ·refine n1 Y (n1 Y (n1 Y (n1 Y (n1 Y (P2 Y Y (n1 Y (n1 Y (n1 Y (n1 Y (n1 Y (P2 Y Y (Dx (Ct (Rb Y Y ?_))))))))))))))
  cases a;cases b;simp_all
theorem C3x{w:World}{d:Value}{l:(List Match)}{e:List Value}{m:Match}(b:Gd.rd w [d] l)(f:Gd.rd w e m):Cy 32 [d,(.agg e.toArray)] w (Val w (.bool (C4I l m))):=by
 have a2:=rM b;obtain⟨u,v,rfl,q,r⟩:=FG f;have a3:=rM q;have a4:=rM r;refine enter 18 Tryz.func32 Y Y Y (Sr (bX Y λg8=>?_));refine Pe Y (Dh ([bx g8 [(.string m.Rule),u,v]]) Y (Cq (Sr (Pe Y (Cb (Cl (λm_ ac w'=>∃(k:Nat),(k<=l.length)/\(∀i,i<k->∀x,l[i]?=some x->x≠m)/\m_=l.length-k/\Fits ac 18 [(0,d),(3,(pv g8)),(5,(nv k))]/\St w ([bx g8 [(.string m.Rule),u,v]]) w') ?_ ?_))))))
 ·refine λac w' hf hs=>⟨_,0,?_,?_,Y,hf.wk Y,hs⟩
  ·first|assumption|omega|simp
  ·intro i hi;omega
 ·rintro m_ ac w' ⟨k,hk,hi,rfl,hf,hs⟩;refine D.use ?_ hf hs;clear hf hs ac w';refine Cq (Sr (P2 Y Y (dl JL Y (AE b) (Pe Y (Cd Y (λs=>?_) (λs=>?_))))))
  ·refine Sk (Cq (Cb (Cq (A0 mixed [5] (by kernel_rfl) (tK 4 [0,1] Y ?_)))));obtain⟨x0,a⟩:=sI l k;obtain⟨z,g,c⟩:=AC (n:=3) rfl b a;obtain⟨a5,a6,rfl,o,p⟩:=FG c;have a0:=rM o;have a1:=rM p;refine Tk 2 Y Y (AJ (l:=l) (j:=k) JL Y Y Y (λw' hs=>(rA hs b)) Y (lS a)) (Tk 3 Y Y (EX C2y Y Y g) (Tk 4 Y Y (C9 0 C2y Y Y Y) (ty 5 Y Y (cv A6x Y Y Y Y (λw' hs=>(C3v (rA hs c) (rA hs f))) ?_))));refine tZ Y (tE (Xt (Ci _ Y (λt=>?_) (λt=>?_))))
   ·refine Sr (Pe Y (Ct (Xq (Xr (Xr (Xq (Xr (Rb Y Y ?_))))))))
    first|exact C4W a (by simp_all)|exact C4X (λi h=>hi i (by omega))
   ·refine Ck (Xb (Xt (Cr (p1 Y (ad (k+1) Y (Pe Y (λac w' hf hs=>⟨_,?_,k+1,?_,?_,Y,hf.wk Y,hs⟩)))))))
    ·omega
    ·first|assumption|omega|simp
    ·refine AF hi ?_;intro y hy;obtain rfl:y=x0:=Option.some.inj (hy.symm.trans a);simp_all
  ·refine Cx (Xx (Xx (Xe (Xt (Sr (Pe Y (Ct (Rb Y Y ?_))))))))
   first|exact C4W a (by simp_all)|exact C4X (λi h=>hi i (by omega))
theorem C1R(w wz:World)(m:E4 wz w)(a:Value)(code:(List UInt8))(b:Gd.rd wz [a] code):Cy 23 [a] w (λe w'=>∃(ya:List Rule) (yb:List Stamp) (yc:List Firing),(AR ya=true/\yb.length<=8/\∀s∈yb,smS s)/\C4d wz w ya yb yc e w'):=by
 have bq:=rM b;refine CX 51 Tryz.func23 Y Y Y (GL w wz) (Sr (P3 Y Y Y (Dx (Dh ([fz wz wz]) Y (Sr (p1 Y (li Y (ccN A7E Y Y Y Y (λw' hs=>(B7p (B0 0 m hs Y b))) λg2=>?_))))))));refine Pe Y (Dh ([cu g2 a code.length,_]) Y (Sr (p1 Y (AG [1,0] Y (li Y (C4f (α:=List Rule) (β:=List Stamp) (γ:=List Match) pZ Y Y Y Y (λw' hs=>C4B _ _ _ m _ w' g2 a code (Gd.rd_sub m b) hs) λy3 y4 y5 br bs bt o h z af a0 a1=>?_))))));have b1:=h.1;have b2:=h.2;have b3:=Gd.rd_sub z b;obtain⟨a5,rfl⟩:=CL af;have b4:=rM af;obtain⟨v17,rfl⟩:=CL a0;have b5:=rM a0;obtain⟨ag,rfl⟩:=CL a1;have b6:=rM a1;refine MS 15 (v':=(.tuple #[a5,v17,ag])) Y Y Y (P3 Y Y Y (P3 Y Y Y (Pe Y (Dh ([fz wz o,_]) Y (Cq ?_)))));have hae:=h.2.2;have hyl:y5.length<=1990656:=by rw[hae];exact nJ _ _
 refine Cr (li Y (MZ (α:=Firing) o C1u Y Y Y λv21=>?_));refine Pe Y (Dh ([oz o v21 ([]:List Firing),_,_]) Y (Cq (Sr (Pe Y (Cb (Cl (λm_ ac w'=>∃(p:World),∃(i:Nat),∃(fd:List Firing),∃(v:Value),(E4 o p)/\(i<=y5.length)/\(fd.length<=i)/\m_=y5.length-i/\Fits ac 51 [(5,(pv g2)),(6,a5),(7,v17),(8,ag),(9,v),(10,(nv i))]/\St w ([oz p v (fd:List Firing),fz wz p,cu g2 a code.length]) w') ?_ ?_))))))
 ·refine DZ 0 Y (show([]:(List Firing))=([]) from by first|rfl|simp|(simp;omega)) (λac w' hf hs=>⟨_,o,0,[],v21,(E4.refl _),?_,?_,Y,hf.wk Y,hs⟩)
  ·first|assumption|omega|simp
  ·simp
 ·rintro m_ ac w' ⟨p,i,fd,v,d,hi,hfl,rfl,hf,hs⟩;refine D.use ?_ hf hs;clear hf hs ac w';have a2:=Gd.rd_sub d af;have r:=Gd.rd_sub d a0;have f:=Gd.rd_sub d a1;refine Cq (Sr (P2 Y Y (dl JL Y (AE f) (Pe Y (Dh ([_,_,_]) Y (Cd Y (λah=>?_) (λah=>?_)))))))
  ·refine Sk (Cq (Cb (Sr (p1 Y (AG [2,0,1] Y (li Y (ccB A7F Y Y Y Y (λw' hs=>B5H _ _ w' g2 a code 3 (Gd.rd_sub m b) hs) λbu=>?_)))))));refine Dx (Ci _ Y (λaw=>?_) (λaw=>?_))
   ·refine A0 mixed [15,16] (by kernel_rfl) (tK 14 [0,1,2] Y ?_);obtain⟨m0,a6⟩:=sI y5 i;have hms:DJ m0<=386/\m0.Facts.length<=4:=by have h9:=a6;rw[hae] at h9;exact eP h9
    obtain⟨b7,a3,a7⟩:=AC (n:=3) rfl f a6;obtain⟨bv,bw,rfl,a4,a8⟩:=FG a7;have b8:=rM a4;have b9:=rM a8;refine Tk 3 Y Y (AJ (l:=y5) (j:=i) JL Y Y Y (λw' hs=>(B0 2 m hs Y f)) Y (lS a6)) (Tk 4 Y Y (B2 C0J Y Y) (Tk 5 Y Y (lrz 2 m Y BK Y Y a3 Y) (tK 8 [6,7,8] Y (Tk 9 Y Y (AJ (l:=y5) (j:=i) JL Y Y Y (λw' hs=>(B0 2 m hs Y f)) Y (lS a6)) (Tk 10 Y Y (B2 B7j Y Y) (Tk 11 Y Y (lrz 2 m Y B7Y Y Y a3 Y) (ty 12 Y Y (YJ A6u Y Y Y Y (λw' hs=>(Z4 (B0 2 m hs Y r) (B0 2 m hs Y a4) (by have:=hms.2;omega))) λv39=>?_))))))));refine tS (λ_ hs=>hs.pk [1,2,3] Y Y) (Dp (λw' hs=>CZ (k:=0) hs Y) ?_);intro ai;refine Tj 13 Y Y (λ_ hs=>hs.pk [1,2,3] Y Y) (FJ (vs:=[(0,(.string m0.Rule)),(1,v39)]) (xs:=[(0,[(.string m0.Rule)]),(1,[v39])]) (cs:=[(.string m0.Rule),v39]) C3B Y ⟨Y,Y,⟨Y,(AO ai),trivial⟩⟩ Y Y) (ty 14 Y Y (FF C1u C2Q Y (by decide) (by decide) Y Y Y Y Y Y λbx=>?_));refine tS (λ_ hs=>hs.pk [2,3,4] Y Y) (AG [1,4,0,2,3] Y (MY m λt c a9=>?_));have ba:=Gd.rd_sub c a2;have bb:=Gd.rd_sub c r;have bc:=Gd.rd_sub c f;have bd:=Gd.rd_sub c a4;have be:=Gd.rd_sub c a8;have bf:=Gd.rd_sub c a7;have bg:=LN.sub a3 c;refine MM (α:=Firing) 3 c Y ?_;have bh:=rM a9;have aj:Gd.rd t [(.string m0.Rule),v39] (⟨m0.Rule,BJ y4 m0.Facts⟩:Firing):=C4M (⟨m0.Rule,BJ y4 m0.Facts⟩:Firing) a9;refine ML (α:=Firing) aj (AG [4,0,2,1,3] Y (ty 15 Y Y (TK (α:=Firing) C1u C2Q Y (by decide) Y Y Y Y Y Y (by first|omega|(simp;omega)) (by first|omega|(simp;omega)) λv54=>?_)));refine tZ Y (tW 16 Y Y Y (tE (Xb (Xt (AH [5,6,7,8,9,10] Y (Dh ([oz t v54 (fd++ [(⟨m0.Rule,BJ y4 m0.Facts⟩:Firing)]:List Firing),fz wz t,_]) Y (Cr (p1 Y (ad (i+1) Y (Pe Y (DZ 0 Y (show(fd++ [(⟨m0.Rule,BJ y4 m0.Facts⟩:Firing)]:(List Firing))=(fd++ [(⟨m0.Rule,BJ y4 m0.Facts⟩:Firing)]) from by first|rfl|simp|(simp;omega)) (λac w' hf hs=>⟨_,?_,t,i+1,fd++ [(⟨m0.Rule,BJ y4 m0.Facts⟩:Firing)],v54,(d.trans c),?_,?_,Y,hf.wk Y,hs⟩))))))))))))
    ·omega
    ·first|assumption|omega|simp
    ·first|(simp;omega)|omega
   ·refine Ck (Xb (Xt (Cr (p1 Y (ad (i+1) Y (Pe Y (λac w' hf hs=>⟨_,?_,p,i+1,fd,v,d,?_,?_,Y,hf.wk Y,hs.pk [1,2,0] Y Y⟩)))))))
    ·omega
    ·first|assumption|omega|simp
    ·first|(simp;omega)|omega
  ·refine Cx (Xx (Xx (Xe (Xt (Cq (Sr (p1 Y (AG [2,0,1] Y (li Y (ccB A7F Y Y Y Y (λw' hs=>B5H _ _ w' g2 a code 8 (Gd.rd_sub m b) hs) λbz=>?_))))))))));refine Dx (Ci _ Y (λax=>?_) (λax=>?_))
   ·refine Cr (p1 Y (AG [2,0,1] Y (li Y (C4Z (α:=Stamp) A7G Y Y Y Y (λw' hs=>C4F _ _ _ m _ w' g2 a code (Gd.rd_sub m b) hs) λay v58 bi g q=>?_))));have az:=g.1;have b0:=g.2;have ak:=Gd.rd_sub q a2;have bj:=Gd.rd_sub q r;have al:=Gd.rd_sub q f;refine MM (α:=Firing) 3 q Y (Pe Y (Sr (P3 Y Y Y (P3 Y Y Y (Dx (Ct (IJ (α:=Stamp) m λbk u aa=>?_)))))));have am:=Gd.rd_sub u ak;have an:=Gd.rd_sub u al;refine MM (α:=Firing) 2 u Y ?_;have bl:=rM aa;refine AG [2,0,1] Y (IJ (α:=Firing) m λao x ab=>?_);have ap:=Gd.rd_sub x am;have bm:=Gd.rd_sub x an;have aq:=Gd.rd_sub x aa;have bn:=rM ab;refine B8Y Y (D8 Y) (D8 Y) (D8 Y) λw' hs=>⟨y3,ay,fd,?_,[a5],[v58],[v],ao,Y,H3 (k:=0) hs Y ((((z.trans d).trans q).trans u).trans x),ap,aq,ab⟩
    first|exact⟨h.1,h.2.1⟩|exact⟨h.1,by have:=g.1;omega,g.2⟩
   ·refine Sk (Sr (P3 Y Y Y (P3 Y Y Y (Dx (Ct (AG [1,2,0] Y (IJ (α:=Firing) m λar y ae=>?_)))))));have au:=Gd.rd_sub y a2;have av:=Gd.rd_sub y r;have bo:=Gd.rd_sub y f;have bp:=rM ae;refine B8Y Y (D8 Y) (D8 Y) (D8 Y) λw' hs=>⟨y3,y4,fd,?_,[a5],[v17],[v],ar,Y,H3 (k:=0) hs Y ((z.trans d).trans y),au,av,ae⟩
    first|exact⟨h.1,h.2.1⟩|exact⟨h.1,by have:=g.1;omega,g.2⟩
set_option maxHeartbeats 8000000 in
theorem laws_FnFresh(w:World)(m:Value)(code:(List UInt8))(d:Gd.rd w [m] code)(ap:Tb w):Cy 5 [m] w (Val w (.bool (true))):=by
 have cm:=rM d;refine CX 100 Tryz.func5 Y Y Y (GL w w) (Sr (Pe Y (Dh ([fz w w]) Y (Cq (Sr (p1 Y (qv b_7 Y (λw' hs=>(B9a (B0 0 (E4.refl _) hs Y d))) (Dx (Ci _ Y (λh2=>?_) (λh2=>?_))))))))))
 ·refine Sr (Pe Y (Ct (Xr (Rb Y Y ?_))))
  first|rfl|(exfalso;omega)|(exfalso;exact C1X a ‹_›)|(exfalso;exact C1Y a ‹_›)|(exfalso;exact C1V c ‹_› b ‹_›)|exact decide_eq_true (by omega)|exact decide_eq_true (by have:=hno (.inr ‹_›);omega)|(exfalso;simp_all;done)
 ·refine Sk (Sr (p1 Y (li Y (C4g (α:=List Rule) (β:=List Stamp) (γ:=List Firing) A6j Y Y Y Y (E4.refl _) (λw' hsb hx_=>C1R w' _ hsb m code d) λy3 y4 s cn co cp ax a2 ay a9 u v=>?_))));have bw:=a2.1;have bz:=a2.2;have az:=Gd.rd_sub ay d;obtain⟨aa,rfl⟩:=CL a9;have c1:=rM a9;obtain⟨v17,rfl⟩:=CL u;have c2:=rM u;obtain⟨ab,rfl⟩:=CL v;have c3:=rM v;refine MS 17 (v':=(.tuple #[aa,v17,ab])) Y Y Y (P3 Y Y Y (P3 Y Y Y (Pe Y (Dh ([fz w ax]) Y (Cq ?_)))));have c:=a2.1;have hrk:=C2n c;have hrn:=Nat.le_trans hrk.2 (by decide:6606<=1048576);have hro:=hrk.1;have hsk:=C4b a2.2.1 a2.2.2;have hsn:=hsk.1;have hso:=hsk.2;have hno:AR y3=false\/C5 y4=false->(EK y3 y4 s).length=0:=λh=>C1T h
  have hend:∀k,C5 y4=true->(DX y3 (y4.map Stamp.Fact)).length<=k->(EK y3 y4 s).length+C1k y3 y4 s k=(DX y3 (y4.map Stamp.Fact)).length:=λk h2 hk=>C1Q c h2 hk
  refine Cr (P3 Y Y Y (ql A6n Y (λw' hs=>(QX (B0 0 (E4.refl _) hs Y a9) (B0 0 (E4.refl _) hs Y u) (B0 0 (E4.refl _) hs Y v) hrn hsn (Tb.ext ap hs.bel))) λv21=>?_));refine Pe Y (Dh ([ov [v21] (EK y3 y4 s:(List Choice)),_]) Y (Cq (Cq (MY (E4.refl _) λc4 x a3=>?_))));have b0:=Gd.rd_sub x az;have ae:=Gd.rd_sub x a9;have af:=Gd.rd_sub x u;have ag:=Gd.rd_sub x v;have c5:=rM a3;refine Cr (p1 Y (dl BS Y (AE a3) (P3 Y Y Y (li Y (cz (α:=List Choice) A6q Y Y Y Y (E4.refl _) (λw' hsb=>QY w' _ hsb aa y3 v17 y4 ab s ae af ag hrn hsn hro hso) λc6 b1 o a4=>?_)))));have c7:=Gd.rd_sub o b0;have b2:=Gd.rd_sub o ae;have ah:=Gd.rd_sub o af;have b3:=Gd.rd_sub o ag;have b4:=Gd.rd_sub o a3;obtain⟨v39,rfl⟩:=CL a4;have c8:=rM a4;refine MS 30 (v':=v39) Y Y Y (dl BS Y (AE a4) (Pe Y (AH [3,4,5,6,32] Y (Dh ([fz w b1]) Y (Cn Y (λb5=>?_) (λb5=>?_))))))
  ·refine Sr (Pe Y (Ct (Xr (Rb Y Y ?_))))
   first|rfl|(exfalso;omega)|(exfalso;exact C1X a ‹_›)|(exfalso;exact C1Y a ‹_›)|(exfalso;exact C1V c ‹_› b ‹_›)|exact decide_eq_true (by omega)|exact decide_eq_true (by have:=hno (.inr ‹_›);omega)|(exfalso;simp_all;done)
  ·refine Sk (Sr (P2 Y Y (ql C3k Y (λw' hs=>(QK (B0 0 (E4.refl _) hs Y ah) hsn)) λv42=>?_)));refine MY (E4.refl _) λc9 y a5=>?_
   have ai:=Gd.rd_sub y b2;have b6:=Gd.rd_sub y ah;have b7:=Gd.rd_sub y b3;have b8:=Gd.rd_sub y b4;have ca:=rM a5;refine li Y (czt (α:=List Match) A6t Y Y Y Y (E4.refl _) (λw' hsb hx_=>C2B w' _ hsb aa y3 v42 (y4.map Stamp.Fact) ai a5 hrn (Tb.ext ap hx_)) λcb a6 p a7=>?_);have aj:=Gd.rd_sub p ai;have ak:=Gd.rd_sub p b6;have b9:=Gd.rd_sub p b7;have a8:=Gd.rd_sub p b8;have cc:=Gd.rd_sub p a5;obtain⟨v60,rfl⟩:=CL a7;have cd:=rM a7;refine MS 36 (v':=v60) Y Y Y (Pe Y (Dh ([fz w a6]) Y (Cq (Sr (p1 Y (qv C3r Y (λw' hs=>(LF (B0 0 (E4.refl _) hs Y aj) hrn hro)) (P2 Y Y (JQ 40 Y Y (λba=>?_) (λba=>?_)))))))))
   ·refine n1 Y (n1 Y (n1 Y (Pe Y (GF Y (Sr (p1 Y (dl BS Y (AE a8) (P2 Y Y (Dx (Ct (Xr (Rb Y Y ?_))))))))))));show((((((EK y3 y4 s).length:Nat):Int):Int)==0):Bool)=_
    first|rfl|(exfalso;omega)|(exfalso;exact C1X a ‹_›)|(exfalso;exact C1Y a ‹_›)|(exfalso;exact C1V c ‹_› b ‹_›)|exact decide_eq_true (by omega)|exact decide_eq_true (by have:=hno (.inr ‹_›);omega)|(exfalso;simp_all;done)
   ·refine p1 Y (qv A7L Y (λw' hs=>(OX (B0 0 (E4.refl _) hs Y ak) hsn hso)) (P2 Y Y (Dx (CN Y (λbb=>?_) (λbb=>?_)))))
    ·refine Sr (p1 Y (dl BS Y (AE a8) (P2 Y Y (Dx (Ct (Xr (Rb Y Y ?_)))))));show((((((EK y3 y4 s).length:Nat):Int):Int)==0):Bool)=_
     first|rfl|(exfalso;omega)|(exfalso;exact C1X a ‹_›)|(exfalso;exact C1Y a ‹_›)|(exfalso;exact C1V c ‹_› b ‹_›)|exact decide_eq_true (by omega)|exact decide_eq_true (by have:=hno (.inr ‹_›);omega)|(exfalso;simp_all;done)
    ·refine Sk (Sr (Pe Y (Cq (Sr (Pe Y (Cb (Cl (λm_ ac w'=>∃(e:World),∃(i:Nat),∃(q:Nat),(E4 a6 e)/\(i<=(DX y3 (y4.map Stamp.Fact)).length)/\(q=C1k y3 y4 s i)/\(q<=i)/\m_=(DX y3 (y4.map Stamp.Fact)).length-i/\Fits ac 100 [(3,aa),(4,v17),(5,ab),(6,v21),(7,v60),(8,(nv q)),(9,(nv i))]/\St w ([fz w e]) w') ?_ ?_)))))))
     ·refine λac w' hf hs=>⟨_,a6,0,0,(E4.refl _),?_,?_,?_,Y,hf.wk Y,hs⟩
      ·first|assumption|omega|simp
      ·exact C4a
      ·omega
     ·rintro m_ ac w' ⟨e,i,q,g,hi,hq,hqi,rfl,hf,hs⟩;refine D.use ?_ hf hs;clear hf hs ac w';have bc:=Gd.rd_sub g aj;have bd:=Gd.rd_sub g ak;have al:=Gd.rd_sub g b9;have be:=Gd.rd_sub g a8;have z:=Gd.rd_sub g a7;have hvl:=nJ y3 (y4.map Stamp.Fact);refine Cq (Sr (P2 Y Y (dl JL Y (AE z) (Pe Y (Dh ([_]) Y (Cd Y (λbf=>?_) (λbf=>?_)))))))
      ·refine Sk (Cq (Cb (Sr (P3 Y Y Y (p1 Y ?_)))));obtain⟨m0,b⟩:=sI (DX y3 (y4.map Stamp.Fact)) i;have hms:=eP b;obtain⟨ce,bg,am⟩:=AC (n:=3) rfl z b;obtain⟨cq,cr,rfl,bh,bi⟩:=FG am;have cf:=rM bh;have cg:=rM bi;refine q1 Y (AJ (l:=(DX y3 (y4.map Stamp.Fact))) (j:=i) JL Y Y Y (λw' hs=>(B0 0 (E4.refl _) hs Y z)) Y (lS b)) (q1 Y (SO 0 (E4.refl _) Y C2y Y Y bg) (qc2 A5B Y (λw' hs=>(C3w (B0 0 (E4.refl _) hs Y bc) (B0 0 (E4.refl _) hs Y bd) (B0 0 (E4.refl _) hs Y am) hrn (by omega) hsn (Tb.ext ap hs.bel))) λch bj=>?_));refine Dp (λw' hs=>F4 (rO (k:=0) hs Y)) ?_;rintro⟨v83,v84,v85,rfl,bk,bl,bm⟩;refine Dp (λw' hs=>show bj=[(.bool (G9 y3 y4 m0))] from rO (k:=1) hs Y) ?_;rintro rfl;refine MS 61 (v':=(.tuple #[(.agg #[(.string ((CW y3 y4 m0).Match.Rule)),v83,v84,(iv ((CW y3 y4 m0).Priority)),v85,(iv ((CW y3 y4 m0).Specific)),(iv ((CW y3 y4 m0).Order))]),(.bool (G9 y3 y4 m0))])) Y Y Y (AG [0,2] Y (P3 Y Y Y (aL I6 Y λbr=>?_)));refine li Y (AZ (vs:=[(.string ((CW y3 y4 m0).Match.Rule)),v83,v84,(iv ((CW y3 y4 m0).Priority)),v85,(iv ((CW y3 y4 m0).Specific)),(iv ((CW y3 y4 m0).Order))]) (cs':=[(.string ((CW y3 y4 m0).Match.Rule)),v83,v84,(iv ((CW y3 y4 m0).Priority)),v85,(iv ((CW y3 y4 m0).Specific)),(iv ((CW y3 y4 m0).Order))]) 0 TP Y Y Y Y Y Y (AB Y (AB bk (AB bl (AB Y (AB bm (AB Y (AB Y BR))))))) (by simp) Y ?_);refine Pe Y (Dh ([bx br [(.string ((CW y3 y4 m0).Match.Rule)),v83,v84,(iv ((CW y3 y4 m0).Priority)),v85,(iv ((CW y3 y4 m0).Specific)),(iv ((CW y3 y4 m0).Order))],ov [(.string ((CW y3 y4 m0).Match.Rule)),v83,v84,(iv ((CW y3 y4 m0).Priority)),v85,(iv ((CW y3 y4 m0).Specific)),(iv ((CW y3 y4 m0).Order))] (CW y3 y4 m0:Choice),_]) Y (Cq (Sr (P2 Y Y (Dx (AH [3,4,5,6,7,8,9,10,65] Y (CN Y (λbn=>?_) (λbn=>?_))))))))
       ·refine Sr (Pe Y (Ct (Xr (Xq (Xr (Xr (Xq (Xr (Rb Y Y ?_)))))))))
        first|rfl|(exfalso;omega)|(exfalso;exact C1X a ‹_›)|(exfalso;exact C1Y a ‹_›)|(exfalso;exact C1V c ‹_› b ‹_›)|exact decide_eq_true (by omega)|exact decide_eq_true (by have:=hno (.inr ‹_›);omega)|(exfalso;simp_all;done)
       ·refine Sk (Sr (p1 Y (q1 Y (C9 0 C3 Y Y Y) (qv A1Y Y (λw' hs=>(WO (B0 2 (E4.refl _) hs Y al) (rO (k:=1) hs Y))) (Dx (Ci _ Y (λbs=>?_) (λbs=>?_)))))))
        ·refine Cr (p1 Y (ad (q+1) Y (p1 Y (De (Xb (Xt (Cr (p1 Y (ad (i+1) Y (Pe Y (λac w' hf hs=>⟨_,?_,e,i+1,q+1,g,?_,?_,?_,Y,hf.wk Y,hs.pk [2] Y Y⟩)))))))))))
         ·omega
         ·first|assumption|omega|simp
         ·first|(rw[hq];exact C4U c ‹_› b ‹_›)|(rw[hq];exact C4V c ‹_› b ‹_›)
         ·omega
        ·refine Ck (Xb (Xt (Cr (p1 Y (ad (i+1) Y (Pe Y (λac w' hf hs=>⟨_,?_,e,i+1,q,g,?_,?_,?_,Y,hf.wk Y,hs.pk [2] Y Y⟩)))))))
         ·omega
         ·first|assumption|omega|simp
         ·first|(rw[hq];exact C4U c ‹_› b ‹_›)|(rw[hq];exact C4V c ‹_› b ‹_›)
         ·omega
      ·refine Cx (Xx (Xx (Xe (Xt (Cq (Sr (Pe Y (Cb (Cl (λm_ ac w'=>∃(a0:World),∃(j:Nat),(E4 e a0)/\(j<=(EK y3 y4 s).length)/\m_=(EK y3 y4 s).length-j/\Fits ac 100 [(5,ab),(6,v21),(7,v60),(8,(nv q)),(12,(nv j))]/\St w ([fz w a0]) w') ?_ ?_)))))))))
       ·refine λac w' hf hs=>⟨_,e,0,(E4.refl _),?_,Y,hf.wk Y,hs⟩
        ·first|assumption|omega|simp
       ·rintro m_ ac w' ⟨a0,j,a1,hj,rfl,hf,hs⟩;refine D.use ?_ hf hs;clear hf hs ac w';have bo:=Gd.rd_sub a1 al;have r:=Gd.rd_sub a1 be;have an:=Gd.rd_sub a1 z;have hfe:=hend i ‹_› (by omega);have hvl:=nJ y3 (y4.map Stamp.Fact);refine Cq (Sr (P2 Y Y (dl BS Y (AE r) (Pe Y (Dh ([_]) Y (Cd Y (λbp=>?_) (λbp=>?_)))))))
        ·refine Sk (Cq (Cb (Sr (P3 Y Y Y ?_))));obtain⟨c0,a⟩:=sI (EK y3 y4 s) j;obtain⟨ci,ao,t⟩:=AC (n:=7) rfl r a;obtain⟨cj,ck,cl,rfl,aq,ar,au⟩:=BF t;have bt:=rM aq;have bu:=rM ar;have bv:=rM au;have av:=AQ t;refine q1 Y (AJ (l:=(EK y3 y4 s)) (j:=j) BS Y Y Y (λw' hs=>(B0 0 (E4.refl _) hs Y r)) Y (lS a)) (q1 Y (SO 0 (E4.refl _) Y C3 Y Y ao) (qv A1Y Y (λw' hs=>(WO (B0 0 (E4.refl _) hs Y bo) (B0 0 (E4.refl _) hs Y t))) (p1 Y (gs 83 Y Y (λbq=>?_) (λbq=>?_)))))
         ·refine n1 Y (n1 Y (n1 Y (n1 Y (n1 Y (n1 Y (n1 Y (n1 Y (Pe Y (AH [5,6,7,8,12,92] Y (GF Y (Sr (Pe Y (Ct (Xq (Xr (Xr (Xq (Xr ?_))))))))))))))))));refine Rb Y Y ?_
          first|rfl|(exfalso;omega)|(exfalso;exact C1X a ‹_›)|(exfalso;exact C1Y a ‹_›)|(exfalso;exact C1V c ‹_› b ‹_›)|exact decide_eq_true (by omega)|exact decide_eq_true (by have:=hno (.inr ‹_›);omega)|(exfalso;simp_all;done)
         ·refine P3 Y Y Y (q1 Y (AJ (l:=(EK y3 y4 s)) (j:=j) BS Y Y Y (λw' hs=>(B0 0 (E4.refl _) hs Y r)) Y (lS a)) (q1 Y (B2 EH Y Y) (q1 Y (SO 0 (E4.refl _) Y C2y Y Y (Q1 (f:=0) (n:=3) ao Y)) (qv A7O Y (λw' hs=>(C3x (B0 0 (E4.refl _) hs Y an) (B0 0 (E4.refl _) hs Y av))) (P2 Y Y (Dx (AH [5,6,7,8,12,92] Y (CN Y (λaw=>?_) (λaw=>?_)))))))))
          ·refine Sr (Pe Y (Ct (Xq (Xr (Xr (Xq (Xr (Rb Y Y ?_))))))))
           first|rfl|(exfalso;omega)|(exfalso;exact C1X a ‹_›)|(exfalso;exact C1Y a ‹_›)|(exfalso;exact C1V c ‹_› b ‹_›)|exact decide_eq_true (by omega)|exact decide_eq_true (by have:=hno (.inr ‹_›);omega)|(exfalso;simp_all;done)
          ·refine Ck (Xb (Xt (Cr (p1 Y (ad (j+1) Y (Pe Y (λac w' hf hs=>⟨_,?_,a0,j+1,a1,?_,Y,hf.wk Y,hs⟩)))))))
           ·omega
           ·first|assumption|omega|simp
        ·refine Cx (Xx (Xx (Xe (Xt (Sr (p1 Y (dl BS Y (AE r) (p1 Y (ad ((EK y3 y4 s).length+q) Y (p1 Y (dl JL Y (AE an) (P2 Y Y (Dx (Ct (Rb Y Y ?_)))))))))))))));show((((((EK y3 y4 s).length+q:Nat):Int):Int)==(((DX y3 (y4.map Stamp.Fact)).length:Nat):Int)):Bool)=_
         first|rfl|(exfalso;omega)|(exfalso;exact C1X a ‹_›)|(exfalso;exact C1Y a ‹_›)|(exfalso;exact C1V c ‹_› b ‹_›)|exact decide_eq_true (by omega)|exact decide_eq_true (by have:=hno (.inr ‹_›);omega)|(exfalso;simp_all;done)
end Go.Sy.Lawg
