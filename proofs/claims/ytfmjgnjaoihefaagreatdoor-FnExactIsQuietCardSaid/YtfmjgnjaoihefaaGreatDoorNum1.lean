/-
  Contracts of functions of the program, walked (printed by a program of ours).
  Conditions: those that each theorem states.
-/
import Derived.Test.YtfmjgnjaoihefaaGreatDoorFct
import Derived.Test.YtfmjgnjaoihefaaGreatDoorEng3
import Derived.Test.YtfmjgnjaoihefaaGreatDoorFmt1
import Derived.Test.YtfmjgnjaoihefaaGreatDoorNum
import Derived.Test.YtfmjgnjaoihefaaGreatDoorShelf
set_option linter.unusedVariables false
set_option maxRecDepth 20000
namespace Go.Sy.Num1
open Go Go.RowKit Go.Proofs Go.Sy
theorem xO:Tryz.prog.isIface 261=true:=by kernel_rfl
open Go.Sy.Bel1 Go.Sy.Ev1 Go.Sy.Ev2 Go.Sy.Fmt1 Go.Sy.Eng1 Go.Sy.Eng2 Go.Sy.Eng3
theorem UL(w:World)(s:ByteArray)(hl:s.size<=18)(a:Tb w):Cy 271 [Value.string s] w (λe w'=>∃x,e= .returned (.tuple #[.int .i64 (aN s),x])/\A1t (aE s) x/\Ex w w'):=by
 cases e:Lib.atoi s.data.toList with
 | some n=>
  refine(Tryz.strconv_Atoi s n hl e w).mono λe' w' ⟨he,t,hw⟩=>⟨.nilIface,?_, .inr ⟨?_,Y⟩,?_⟩
  ·rw[he];simp[aN,e]
  ·simp[aE,e]
  ·rw[hw];exact Go.Joins.below_bytesWorld _ w 5 t (Nat.le_refl _)
 | none=>
  obtain⟨tp,p,hv⟩:=a.2;refine(Tryz.strconv_Atoi_err_var s hl e tp p w hv).mono λe' w' ⟨N,he,_,_,hb⟩=>?_
  have h0:aN s=0:=by simp[aN,e]
  have h1:aE s=true:=by simp[aE,e]
  rw[h0,h1];exact⟨_,he, .inl ⟨rfl,_,_,rfl⟩,hb⟩
theorem K0(w:World)(a b:ByteArray):Cy 176 [Value.string a,Value.string b] w (Val w (iv (PT a b))):=
 (Tryz.strings_Compare a b w).mono λe w' ⟨he,hw⟩=>⟨by rw[he,xJ],hw▸Ex.refl w⟩
theorem I0{w:World}{s:ByteArray}(a:Tb w):Cy 235 [(.string s)] w (O8 w (pI s:Int) (pO s:Bool)):=by
 refine enter 36 Tryz.func235 Y Y Y (Sr (P2 Y Y (Dx (Cq (Sr (p1 Y (q1 Y (FZ F5 Y Y) (P2 Y Y (EY 9 Y Y (λc=>?_) (λc=>?_))))))))))
 ·refine n1 Y (n1 Y (n1 Y (Pe Y (GF Y (Sr (P2 Y Y (Dx (Ct (Xr (O7 0 (AX false (AG [1,0] Y (DL Y (D8 Y) (D8 Y) λw' hs=>AY (c1:=[(iv 0)]) (c2:=[(.bool false)]) hs ?_ ?_)))))))))))))
  ·show(0:Int)=pI s;exact(XE (by omega)).1
  ·show(false:Bool)=pO s;exact(XE (by omega)).2
 ·refine p1 Y (q1 Y (FZ F5 Y Y) (P2 Y Y (Dx (Cd Y (λd=>?_) (λd=>?_)))))
  ·refine Sr (P2 Y Y (Dx (Ct (Xr (O7 0 (AX false (AG [1,0] Y (DL Y (D8 Y) (D8 Y) λw' hs=>AY (c1:=[(iv 0)]) (c2:=[(.bool false)]) hs ?_ ?_))))))))
   ·show(0:Int)=pI s;exact(XE (by omega)).1
   ·show(false:Bool)=pO s;exact(XE (by omega)).2
  ·refine Sk (Sr (p1 Y (li Y (cve (g:=λx=> .tuple #[.int .i64 (aN s),x]) (J:=A1t (aE s)) A3p Y Y Y Y (λw' hs=>(UL w' s (by omega) (Tb.ext a hs.bel))) λi b=>?_))));refine P3 Y Y Y (P2 Y Y (Dx (AH [0,4,5] Y (Cq (Cq ?_)))));have har:=A1x s (by omega);refine Cr (p1 Y (q1 Y (xG xO Y Y b) (p1 Y (gs 21 Y Y (λj=>?_) (λj=>?_)))))
   ·refine n1 Y (n1 Y (P2 Y Y (n1 Y (n1 Y (P2 Y Y (n1 Y (n1 Y (n1 Y (n1 Y (Pe Y (AH [4,34] Y (GF Y (Sr (P2 Y Y (Dx (Ct (Xr (O7 0 (AX false ?_)))))))))))))))))));refine AG [1,0] Y (DL Y (D8 Y) (D8 Y) λw' hs=>AY (c1:=[(iv 0)]) (c2:=[(.bool false)]) hs ?_ ?_)
    ·show(0:Int)=pI s;exact(A0n ‹_›).1
    ·show(false:Bool)=pO s;exact(A0n ‹_›).2
   ·refine P3 Y Y Y (p1 Y (EY 25 Y Y (λe=>?_) (λe=>?_)))
    ·refine n1 Y (n1 Y (P2 Y Y (n1 Y (n1 Y (n1 Y (n1 Y (Pe Y (AH [4,34] Y (GF Y (Sr (P2 Y Y (Dx (Ct (Xr (O7 0 (AX false (AG [1,0] Y (DL Y (D8 Y) (D8 Y) λw' hs=>AY (c1:=[(iv 0)]) (c2:=[(.bool false)]) hs ?_ ?_))))))))))))))))))
     ·show(0:Int)=pI s;exact(ZK (by omega)).1
     ·show(false:Bool)=pO s;exact(ZK (by omega)).2
    ·refine P3 Y Y Y (p1 Y (EY 29 Y Y (λf=>?_) (λf=>?_)))
     ·refine n1 Y (n1 Y (n1 Y (n1 Y (Pe Y (AH [4,34] Y (GF Y (Sr (P2 Y Y (Dx (Ct (Xr (O7 0 (AX false (AG [1,0] Y (DL Y (D8 Y) (D8 Y) λw' hs=>AY (c1:=[(iv 0)]) (c2:=[(.bool false)]) hs ?_ ?_)))))))))))))))
      ·show(0:Int)=pI s;exact(ZK (by omega)).1
      ·show(false:Bool)=pO s;exact(ZK (by omega)).2
     ·refine p1 Y (qv A3q Y (λw' hs=>(UG (by omega) (Tb.ext a hs.bel))) (p1 Y (q1 Y (E5 Y Y Y) (Pe Y (AH [4,34] Y (R8 Y (λh=>?_) (λh=>?_)))))))
      ·refine Sr (P2 Y Y (Dx (Ct (Xr (O7 0 (AX false (AG [1,0] Y (DL Y (D8 Y) (D8 Y) λw' hs=>AY (c1:=[(iv 0)]) (c2:=[(.bool false)]) hs ?_ ?_))))))))
       ·show(0:Int)=pI s;exact(A0o ‹_›).1
       ·show(false:Bool)=pO s;exact(A0o ‹_›).2
      ·refine Sk (Sr (P3 Y Y Y (Dx (Ct (O7 (aN s) (AX true (AG [1,0] Y (DL Y (D8 Y) (D8 Y) λw' hs=>AY (c1:=[(iv (aN s))]) (c2:=[(.bool true)]) hs ?_ ?_))))))))
       ·show((aN s):Int)=pI s;exact(xI (n:=aN s) (by omega) (by omega) ‹_›).1
       ·show(true:Bool)=pO s;exact(xI (n:=aN s) (by omega) (by omega) ‹_›).2
theorem LG{w:World}{s:ByteArray}:Cy 249 [(.string s)] w (O8 w (pI s:Int) (pO s:Bool)):=by
 refine enter 39 Tryz.func249 Y Y Y (Sr (P2 Y Y (Dx (Cq (Sr (p1 Y (q1 Y (FZ F5 Y Y) (qv SP Y (λw' hs=>E7) (Pe Y (CN Y (λa=>?_) (λa=>?_)))))))))))
 ·refine Sr (P2 Y Y (Dx (Ct (Xr (O7 0 (AX false (AG [1,0] Y (DL Y (D8 Y) (D8 Y) λw' hs=>AY (c1:=[(iv 0)]) (c2:=[(.bool false)]) hs ?_ ?_))))))))
  ·show(0:Int)=pI s;exact(XE (by unfold GO at*;simp_all;omega)).1
  ·show(false:Bool)=pO s;exact(XE (by unfold GO at*;simp_all;omega)).2
 ·refine Sk (Sr (Pe Y (Cq (Sr (Pe Y (Cb (Cl (λm_ ac w'=>∃(k:Nat),∃(nn:Int),(k<=s.size)/\(dvT s k nn)/\m_=s.size-k/\Fits ac 39 [(0,(.string s)),(4,(iv nn)),(5,(nv k))]/\St w ([]) w') ?_ ?_)))))))
  ·refine λac w' hf hs=>⟨_,0,0,?_,?_,Y,hf.wk Y,hs⟩
   ·omega
   ·exact rS s
  ·rintro m_ ac w' ⟨k,nn,hk,hd,rfl,hf,hs⟩;refine D.use ?_ hf hs;clear hf hs ac w';have g:s.size<=4:=by unfold GO at*;simp_all;omega
   have f:=rV hd (by omega);refine Cq (Sr (P2 Y Y (q1 Y (FZ F5 Y Y) (Pe Y (Cd Y (λb=>?_) (λb=>?_))))))
   ·refine Sk (Cq (Cb (Cq (Sr (P2 Y Y (q1 Y (HL (j:=k) F5 Y Y Y Y (by omega)) (P2 Y Y (EY 20 Y Y (λc=>?_) (λc=>?_)))))))))
    ·refine n1 Y (n1 Y (n1 Y (n1 Y (Pe Y (GF Y (Sr (P2 Y Y (Dx (Ct (Xr (Xq (Xr (Xr (Xq (Xr (O7 0 (AX false (AG [1,0] Y (DL Y (D8 Y) (D8 Y) λw' hs=>AY (c1:=[(iv 0)]) (c2:=[(.bool false)]) hs ?_ ?_)))))))))))))))))))
     ·show(0:Int)=pI s;exact(ZL (k:=k) (by omega) (by omega)).1
     ·show(false:Bool)=pO s;exact(ZL (k:=k) (by omega) (by omega)).2
    ·refine P2 Y Y (q1 Y (HL (j:=k) F5 Y Y Y Y (by omega)) (P2 Y Y (Dx (Cd Y (λd=>?_) (λd=>?_)))))
     ·refine Sr (P2 Y Y (Dx (Ct (Xr (Xq (Xr (Xr (Xq (Xr (O7 0 (AX false (AG [1,0] Y (DL Y (D8 Y) (D8 Y) λw' hs=>AY (c1:=[(iv 0)]) (c2:=[(.bool false)]) hs ?_ ?_)))))))))))))
      ·show(0:Int)=pI s;exact(ZL (k:=k) (by omega) (by omega)).1
      ·show(false:Bool)=pO s;exact(ZL (k:=k) (by omega) (by omega)).2
     ·refine Sk (Cr ?_);have hdl:=rV hd (by omega);have hsr:=oM s k;refine p1 Y (q1 Y (A1u Y Y Y (by omega)) (P2 Y Y (q1 Y (HL (j:=k) F5 Y Y Y Y (by omega)) (q1 Y (A1v Y Y Y (by omega)) (q1 Y (A5W LO ⟨_,VL⟩ Y Y (by omega)) (q1 Y (DW Y Y Y Y (by omega)) (p1 Y (De (Xb (Xt (AH [0,4,5] Y (Cr (p1 Y (ad (k+1) Y (Pe Y (λac w' hf hs=>⟨_,?_,k+1,((10*nn)+((sB s k)-48)),?_,?_,Y,hf.wk Y,hs⟩))))))))))))))))
      ·omega
      ·omega
      ·exact rU hd (by omega) (by omega) (by omega)
   ·refine Cx (Xx (Xx (Xe (Xt (Cq (Sr (p1 Y (qv A0E Y (λw' hs=>(UH (by omega))) (p1 Y (q1 Y (E5 Y Y Y) (Dx (R8 Y (λe=>?_) (λe=>?_)))))))))))))
    ·refine Sr (P2 Y Y (Dx (Ct (Xr (O7 0 (AX false (AG [1,0] Y (DL Y (D8 Y) (D8 Y) λw' hs=>AY (c1:=[(iv 0)]) (c2:=[(.bool false)]) hs ?_ ?_))))))))
     ·show(0:Int)=pI s;exact(A0p hd (by omega) ‹_›).1
     ·show(false:Bool)=pO s;exact(A0p hd (by omega) ‹_›).2
    ·refine Sk (Sr (P3 Y Y Y (Dx (Ct (O7 nn (AX true (AG [1,0] Y (DL Y (D8 Y) (D8 Y) λw' hs=>AY (c1:=[(iv nn)]) (c2:=[(.bool true)]) hs ?_ ?_))))))))
     ·show(nn:Int)=pI s;exact(xI (n:=nn) (by omega) (by omega) ‹_›).1
     ·show(true:Bool)=pO s;exact(xI (n:=nn) (by omega) (by omega) ‹_›).2
theorem BP{w:World}{a:Int}{b:Int}:Cy 178 [(iv a),(iv b)] w (Val w (iv (DN a b))):=by
 refine enter 13 Tryz.func178 Y Y Y (Sr (Pe Y (Cq (Cb (Sr (P3 Y Y Y (Pe Y (Cd Y (λc=>?_) (λc=>?_)))))))))
 ·refine Sr (Pe Y (Ct (Xq (Xr (Ri Y Y ?_)))));show((-1):Int)=_;unfold DN;repeat (split<;>try omega)
 ·refine Sr (P3 Y Y Y (Pe Y (Cd Y (λd=>?_) (λd=>?_))))
  ·refine Sr (Pe Y (Ct (Xq (Xr (Ri Y Y ?_)))));show(1:Int)=_;unfold DN;repeat (split<;>try omega)
  ·refine Ck (Xb (Xt (Sr (Pe Y (Ct (Ri Y Y ?_))))));show(0:Int)=_;unfold DN;repeat (split<;>try omega)
theorem UM{w:World}{a:ByteArray}{b:ByteArray}:Cy 212 [(.string a),(.string b)] w (Val w (iv (PT a b))):=by
 refine enter 13 Tryz.func212 Y Y Y (Sr (Pe Y (Cq (Cb (Sr (P2 Y Y (q1 Y (A3A Y Y Y) (Pe Y (Ci _ Y (λh1=>?_) (λh1=>?_))))))))))
 ·refine Sr (Pe Y (Ct (Xq (Xr (Ri Y Y ?_)))));show((-1):Int)=_;unfold PT;simp_all
 ·refine Sr (P2 Y Y (q1 Y (oQ Y Y Y) (Pe Y (CN Y (λc=>?_) (λc=>?_)))))
  ·refine Sr (Pe Y (Ct (Xq (Xr (Ri Y Y ?_)))));show(1:Int)=_;refine A1y ?_ ?_<;>simp_all
  ·refine Ck (Xb (Xt (Sr (Pe Y (Ct (Ri Y Y ?_))))));show(0:Int)=_;unfold PT;simp_all
theorem QJ{w:World}{a:ByteArray}{b:ByteArray}(c:Tb w):Cy 177 [(.string a),(.string b)] w (Val w (iv (GX a b))):=by
 refine enter 34 Tryz.func177 Y Y Y (Sr (Pe Y (Sr (p1 Y (lM iX Y (λw' hs=>(I0 (Tb.ext c hs.bel))) (v:=(.tuple #[(iv (pI a)),(.bool (pO a))])) Y (P3 Y Y Y (P2 Y Y (Dx (Sr (p1 Y (lM iX Y (λw' hs=>(I0 (Tb.ext c hs.bel))) (v:=(.tuple #[(iv (pI b)),(.bool (pO b))])) Y (P3 Y Y Y (P2 Y Y (Dx (Cq (Cb (Sr ?_)))))))))))))))));refine P2 Y Y (gs 21 Y Y (λd=>?_) (λd=>?_))
 ·refine P3 Y Y Y (Dx (AH [0,1,5,6,7,8,19] Y (Ci _ Y (λf=>?_) (λf=>?_))))
  ·refine Sr (P2 Y Y (qv LP Y (λw' hs=>BP) (Pe Y (Ct (Xq (Xr (Ri Y Y ?_)))))));show((DN (pI a) (pI b)):Int)=_;unfold GX;simp_all
  ·refine Sr (P2 Y Y (Dx (I4 Y d (Sr (Pe Y (Ct (Xq (Xr (Ri Y Y ?_)))))))));show((-1):Int)=_;unfold GX;simp_all
 ·refine n1 Y (P2 Y Y (Dx (AH [0,1,5,6,7,8,19] Y (G7 Y (Sr (P2 Y Y (Dx (aM Y d (Sr (P2 Y Y (Dx (Ci _ Y (λe=>?_) (λe=>?_)))))))))))))
  ·refine Sr (Pe Y (Ct (Xq (Xr (Ri Y Y ?_)))));show(1:Int)=_;unfold GX;simp_all
  ·refine Ck (Xb (Xt (Sr (P2 Y Y (qv A0F Y (λw' hs=>(K0 w' a b)) (Pe Y (Ct (Ri Y Y ?_))))))));show((PT a b):Int)=_;unfold GX;simp_all
theorem K1{w:World}{a:ByteArray}{b:ByteArray}:Cy 213 [(.string a),(.string b)] w (Val w (iv (GX a b))):=by
 refine enter 54 Tryz.func213 Y Y Y (Sr (Pe Y (Sr (p1 Y (lM qB Y (λw' hs=>LG) (v:=(.tuple #[(iv (pI a)),(.bool (pO a))])) Y (P3 Y Y Y (P2 Y Y (Dx (Sr (p1 Y (lM qB Y (λw' hs=>LG) (v:=(.tuple #[(iv (pI b)),(.bool (pO b))])) Y (P3 Y Y Y (P2 Y Y (Dx (Cq (Cb (Cq (Cq ?_))))))))))))))))));refine Cr (P2 Y Y (gs 21 Y Y (λc=>?_) (λc=>?_)))
 ·refine P3 Y Y Y (gs 24 Y Y (λe=>?_) (λe=>?_))
  ·refine P3 Y Y Y (P2 Y Y (Dx (AH [0,1,5,6,7,8,19] Y (Cd Y (λf=>?_) (λf=>?_)))))
   ·refine Sk (I4 Y (decide_eq_true f) (Sr (Pe Y (Ct (Xq (Xr (Ri Y Y ?_)))))));show((-1):Int)=_;unfold GX DN;simp_all;try omega
   ·refine Cr (P2 Y Y (gkt 30 Y Y c (P3 Y Y Y (Pe Y (aM Y (TI e) ?_)))));have i:(!(pO b))=false:=(TI e);refine Cq (Sr (P2 Y Y (gkt 36 Y Y c (P3 Y Y Y (gkt 39 Y Y e (P3 Y Y Y (P2 Y Y (Dx (AH [0,1,6,8,34] Y (Cd Y (λd=>?_) (λd=>?_)))))))))))
    ·refine Sk (I4 Y (decide_eq_true d) (Sr (Pe Y (Ct (Xq (Xr (Ri Y Y ?_)))))));show(1:Int)=_;unfold GX DN;simp_all;try omega
    ·refine Cr (P2 Y Y (gkt 45 Y Y e (P3 Y Y Y (Pe Y (aM Y (TI c) ?_)))));have j:(!(pO a))=false:=(TI c);refine Sr (P2 Y Y (Dx (I4 Y c (Sr (Pe Y (Ct (Xq (Xr (Ri Y Y ?_)))))))));show(0:Int)=_;unfold GX DN;simp_all;try omega
  ·refine n1 Y (n1 Y (n1 Y (P2 Y Y (Dx (AH [0,1,5,6,7,8,19] Y (G7 Y (Cr (P2 Y Y (gkt 30 Y Y c (P3 Y Y Y (Pe Y (I4 Y (VJ e) ?_))))))))))));have k:(!(pO b))=true:=(VJ e);refine Sr (Pe Y (Ct (Xq (Xr (Ri Y Y ?_)))));show((-1):Int)=_;unfold GX DN;simp_all;try omega
 ·refine n1 Y (P2 Y Y (n1 Y (n1 Y (n1 Y (P2 Y Y (Dx (AH [0,1,5,6,7,8,19] Y (G7 Y (Cr (P2 Y Y (gkf 30 Y Y c (n1 Y (n1 Y (P2 Y Y (Dx (G7 Y (Cq (Sr (P2 Y Y (gkf 36 Y Y c ?_))))))))))))))))))));refine n1 Y (P2 Y Y (n1 Y (n1 Y (n1 Y (P2 Y Y (Dx (AH [0,1,6,8,34] Y (G7 Y (Cr (P2 Y Y (gs 45 Y Y (λg=>?_) (λg=>?_))))))))))))
  ·refine P3 Y Y Y (Pe Y (I4 Y (VJ c) ?_));have h:(!(pO a))=true:=(VJ c);refine Sr (Pe Y (Ct (Xq (Xr (Ri Y Y ?_)))));show(1:Int)=_;unfold GX DN;simp_all;try omega
  ·refine n1 Y (n1 Y (P2 Y Y (Dx (G7 Y (Sr (P2 Y Y (Dx (aM Y c (Ck (Xb (Xt (Sr (P2 Y Y (qv A0G Y (λw' hs=>UM) (Pe Y (Ct (Ri Y Y ?_)))))))))))))))));show((PT a b):Int)=_;unfold GX DN;simp_all;try omega
theorem K2{w:World}{g:List Value}{a:Fact}{h:List Value}{b:Fact}(a0:Gd.rd w g a)(a1:Gd.rd w h b)(a2:Tb w):Cy 117 [(.agg g.toArray),(.agg h.toArray)] w (Val w (iv (HS a b))):=by
 obtain⟨u1,rfl,c⟩:=AS a0;have a4:=rM c;obtain⟨u4,rfl,d⟩:=AS a1;have a5:=rM d;refine enter 51 Tryz.func117 Y Y Y (Sr (bX Y λg7=>?_));refine bX Y λg8=>?_
 refine Pe Y (Dh ([bx g8 [(.string b.Rel),u4],bx g7 [(.string a.Rel),u1]]) Y (Cq (Sr (fl 1 EH BK Y (fl 0 EH BK Y (qv A0F Y (λw' hs=>(K0 w' a.Rel b.Rel)) (Pe Y (Sr (P2 Y Y (Dx (Cn Y (λa3=>?_) (λa3=>?_))))))))))))
 ·refine Sr (P2 Y Y (Dx (Ct (Xr (Ri Y Y ?_)))));show((PT a.Rel b.Rel):Int)=_;exact rX (by omega)
 ·refine Sk (Cq (Sr (Pe Y (Cb (Cl (λm_ ac w'=>∃(k:Nat),(k<=a.Args.length)/\(k<=b.Args.length)/\(∀i,i<k->∀x y,a.Args[i]?=some x->b.Args[i]?=some y->GX x y=0)/\m_=a.Args.length-k/\Fits ac 51 [(2,(pv g7)),(3,(pv g8)),(6,(nv k))]/\St w ([bx g8 [(.string b.Rel),u4],bx g7 [(.string a.Rel),u1]]) w') ?_ ?_)))))
  ·refine λac w' hf hs=>⟨_,0,?_,?_,?_,Y,hf.wk Y,hs⟩
   ·omega
   ·omega
   ·intro i hi;omega
  ·rintro m_ ac w' ⟨k,hka,hkb,hi,rfl,hf,hs⟩;refine D.use ?_ hf hs;clear hf hs ac w';refine Cq (Sr (p1 Y (fl 1 BU B5 Y (dl AU Y (AE c) (P2 Y Y (EY 21 Y Y (λm=>?_) (λm=>?_)))))))
   ·refine p1 Y (fl 0 BU B5 Y (dl AU Y (AE d) (P2 Y Y (Dx (Cd Y (λo=>?_) (λo=>?_))))))
    ·refine Sk (Cq (Cb (Cq (A0 mixed [10,11] (by kernel_rfl) (Tk 0 Y Y (Db BU Y Y (q:=1) Y) (Tk 1 Y Y (lb 1 B5 Y Y Y Y) (tR 2 Y Y ?_)))))));obtain⟨x0,e⟩:=sI a.Args k;obtain⟨p,r,s⟩:=AC (n:=1) rfl c e;obtain rfl:p=[.string x0]:=s;refine Tk 3 Y Y (AJ (l:=a.Args) (j:=k) AU Y Y Y (λw' hs=>(rA hs c)) Y (lS e)) (Tk 4 Y Y (HI BK Y Y r Y) (Tk 5 Y Y (Db BU Y Y (q:=1) Y) (Tk 6 Y Y (lb 0 B5 Y Y Y Y) (tR 7 Y Y ?_))));obtain⟨y0,f⟩:=sI b.Args k;obtain⟨t,u,v⟩:=AC (n:=1) rfl d f;obtain rfl:t=[.string y0]:=v;refine Tk 8 Y Y (AJ (l:=b.Args) (j:=k) AU Y Y Y (λw' hs=>(rA hs d)) Y (lS f)) (Tk 9 Y Y (HI BK Y Y u Y) (ty 10 Y Y (cv A3r Y Y Y Y (λw' hs=>(QJ (Tb.ext a2 hs.bel))) ?_)));refine tZ Y (tW 11 Y Y Y (tE (Xt (AH [2,3,6,7] Y (Sr (P2 Y Y (Dx (Cn Y (λz=>?_) (λz=>?_)))))))))
     ·refine Sr (P2 Y Y (Dx (Ct (Xq (Xr (Xr (Xq (Xr (Ri Y Y ?_)))))))));show((GX x0 y0):Int)=_;exact cL (gC (by omega)) hi e f (by omega)
     ·refine Ck (Xb (Xt (Cr (p1 Y (ad (k+1) Y (Pe Y (λac w' hf hs=>⟨_,?_,k+1,?_,?_,?_,Y,hf.wk Y,hs⟩)))))))
      ·omega
      ·omega
      ·omega
      ·refine AF hi ?_;intro x y hx hy;obtain rfl:x=x0:=Option.some.inj (hx.symm.trans e);obtain rfl:y=y0:=Option.some.inj (hy.symm.trans f);omega
    ·refine Cx (Xx (Xx (Xe (Xt (Sr (fl 1 BU B5 Y (dl AU Y (AE c) (fl 0 BU B5 Y (dl AU Y (AE d) (qv LP Y (λw' hs=>BP) (Pe Y (Ct (Ri Y Y ?_)))))))))))));show((DN ((a.Args.length:Nat):Int) ((b.Args.length:Nat):Int)):Int)=_;exact I9 (gC (by omega)) (λi x y hx hy=>hi i (by have:=lS hx;have:=lS hy;omega) x y hx hy)
   ·refine n1 Y (n1 Y (n1 Y (n1 Y (n1 Y (Pe Y (G7 Y (Cx (Xx (Xx (Xe (Xt (Sr (fl 1 BU B5 Y (dl AU Y (AE c) (fl 0 BU B5 Y (dl AU Y (AE d) (qv LP Y (λw' hs=>BP) (p1 Y ?_))))))))))))))))));refine Dx (Ct (Ri Y Y ?_));show((DN ((a.Args.length:Nat):Int) ((b.Args.length:Nat):Int)):Int)=_;exact I9 (gC (by omega)) (λi x y hx hy=>hi i (by have:=lS hx;have:=lS hy;omega) x y hx hy)
set_option maxHeartbeats 4000000 in
theorem K3{w:World}{g:List Value}{a:Fact}{h:List Value}{b:Fact}(a4:Gd.rd w g a)(a5:Gd.rd w h b):Cy 155 [(.agg g.toArray),(.agg h.toArray)] w (Val w (iv (HS a b))):=by
 obtain⟨u1,rfl,c⟩:=AS a4;have a7:=rM c;obtain⟨u4,rfl,d⟩:=AS a5;have a8:=rM d;refine enter 61 Tryz.func155 Y Y Y (Sr (bX Y λg7=>?_));refine bX Y λg8=>?_
 refine Pe Y (Dh ([bx g8 [(.string b.Rel),u4],bx g7 [(.string a.Rel),u1]]) Y (Cq (Sr (fl 1 EH BK Y (fl 0 EH BK Y (q1 Y (E5 Y Y Y) (Dx (R8 Y (λa6=>?_) (λa6=>?_)))))))))
 ·refine Sr (fl 1 EH BK Y (fl 0 EH BK Y (qv A0G Y (λw' hs=>UM) (Pe Y (Ct (Xr (Ri Y Y ?_)))))));show((PT a.Rel b.Rel):Int)=_;exact xK ‹_›
 ·refine Sk (Cq (Sr (Pe Y (Cb (Cl (λm_ ac w'=>∃(k:Nat),(k<=a.Args.length)/\(k<=b.Args.length)/\(∀i,i<k->∀x y,a.Args[i]?=some x->b.Args[i]?=some y->GX x y=0)/\m_=a.Args.length-k/\Fits ac 61 [(2,(pv g7)),(3,(pv g8)),(5,(nv k))]/\St w ([bx g8 [(.string b.Rel),u4],bx g7 [(.string a.Rel),u1]]) w') ?_ ?_)))))
  ·refine λac w' hf hs=>⟨_,0,?_,?_,?_,Y,hf.wk Y,hs⟩
   ·omega
   ·omega
   ·intro i hi;omega
  ·rintro m_ ac w' ⟨k,hka,hkb,hi,rfl,hf,hs⟩;refine D.use ?_ hf hs;clear hf hs ac w';refine Cq (Sr (p1 Y (fl 1 BU B5 Y (dl AU Y (AE c) (P2 Y Y (EY 22 Y Y (λm=>?_) (λm=>?_)))))))
   ·refine p1 Y (fl 0 BU B5 Y (dl AU Y (AE d) (P2 Y Y (Dx (Cd Y (λo=>?_) (λo=>?_))))))
    ·refine Sk (Cq (Cb (Cq (A0 mixed [10,11] (by kernel_rfl) (Tk 0 Y Y (Db BU Y Y (q:=1) Y) (Tk 1 Y Y (lb 1 B5 Y Y Y Y) (tR 2 Y Y ?_)))))));obtain⟨x0,e⟩:=sI a.Args k;obtain⟨p,r,s⟩:=AC (n:=1) rfl c e;obtain rfl:p=[.string x0]:=s;refine Tk 3 Y Y (AJ (l:=a.Args) (j:=k) AU Y Y Y (λw' hs=>(rA hs c)) Y (lS e)) (Tk 4 Y Y (HI BK Y Y r Y) (Tk 5 Y Y (Db BU Y Y (q:=1) Y) (Tk 6 Y Y (lb 0 B5 Y Y Y Y) (tR 7 Y Y ?_))));obtain⟨y0,f⟩:=sI b.Args k;obtain⟨t,u,v⟩:=AC (n:=1) rfl d f;obtain rfl:t=[.string y0]:=v;refine Tk 8 Y Y (AJ (l:=b.Args) (j:=k) AU Y Y Y (λw' hs=>(rA hs d)) Y (lS f)) (Tk 9 Y Y (HI BK Y Y u Y) (ty 10 Y Y (cv A0H Y Y Y Y (λw' hs=>K1) ?_)));refine tZ Y (tW 11 Y Y Y (tE (Xt (AH [2,3,5,6] Y (Sr (P2 Y Y (Dx (Cn Y (λz=>?_) (λz=>?_)))))))))
     ·refine Sr (P2 Y Y (Dx (Ct (Xq (Xr (Xr (Xq (Xr (Ri Y Y ?_)))))))));show((GX x0 y0):Int)=_;exact cL ‹_› hi e f (by omega)
     ·refine Ck (Xb (Xt (Cr (p1 Y (ad (k+1) Y (Pe Y (λac w' hf hs=>⟨_,?_,k+1,?_,?_,?_,Y,hf.wk Y,hs⟩)))))))
      ·omega
      ·omega
      ·omega
      ·refine AF hi ?_;intro x y hx hy;obtain rfl:x=x0:=Option.some.inj (hx.symm.trans e);obtain rfl:y=y0:=Option.some.inj (hy.symm.trans f);omega
    ·refine Cx (Xx (Xx (Xe (Xt (Cq (Cb (Sr (fl 1 BU B5 Y (dl AU Y (AE c) (fl 0 BU B5 Y (dl AU Y (AE d) (P2 Y Y (Dx (AH [2,3,45] Y (Cd Y (λa0=>?_) (λa0=>?_))))))))))))))))
     ·refine Sr (Pe Y (Ct (Xq (Xr (Ri Y Y ?_)))));show((-1):Int)=_;rw[<-I9 ‹_› (λi x y hx hy=>hi i (by have:=lS hx;have:=lS hy;omega) x y hx hy)];unfold DN;repeat (split<;>try omega)
     ·refine Sr (fl 1 BU B5 Y (dl AU Y (AE c) (fl 0 BU B5 Y (dl AU Y (AE d) (P2 Y Y (Dx (Cd Y (λa1=>?_) (λa1=>?_))))))))
      ·refine Sr (Pe Y (Ct (Xq (Xr (Ri Y Y ?_)))));show(1:Int)=_;rw[<-I9 ‹_› (λi x y hx hy=>hi i (by have:=lS hx;have:=lS hy;omega) x y hx hy)];unfold DN;repeat (split<;>try omega)
      ·refine Ck (Xb (Xt (Sr (Pe Y (Ct (Ri Y Y ?_))))));show(0:Int)=_;rw[<-I9 ‹_› (λi x y hx hy=>hi i (by have:=lS hx;have:=lS hy;omega) x y hx hy)];unfold DN;repeat (split<;>try omega)
   ·refine n1 Y (n1 Y (n1 Y (n1 Y (n1 Y (Pe Y (G7 Y (Cx (Xx (Xx (Xe (Xt (Cq (Cb (Sr (fl 1 BU B5 Y (dl AU Y (AE c) (fl 0 BU B5 Y (dl AU Y (AE d) ?_))))))))))))))))));refine P2 Y Y (Dx (AH [2,3,45] Y (Cd Y (λa2=>?_) (λa2=>?_))))
    ·refine Sr (Pe Y (Ct (Xq (Xr (Ri Y Y ?_)))));show((-1):Int)=_;rw[<-I9 ‹_› (λi x y hx hy=>hi i (by have:=lS hx;have:=lS hy;omega) x y hx hy)];unfold DN;repeat (split<;>try omega)
    ·refine Sr (fl 1 BU B5 Y (dl AU Y (AE c) (fl 0 BU B5 Y (dl AU Y (AE d) (P2 Y Y (Dx (Cd Y (λa3=>?_) (λa3=>?_))))))))
     ·refine Sr (Pe Y (Ct (Xq (Xr (Ri Y Y ?_)))));show(1:Int)=_;rw[<-I9 ‹_› (λi x y hx hy=>hi i (by have:=lS hx;have:=lS hy;omega) x y hx hy)];unfold DN;repeat (split<;>try omega)
     ·refine Ck (Xb (Xt (Sr (Pe Y (Ct (Ri Y Y ?_))))));show(0:Int)=_;rw[<-I9 ‹_› (λi x y hx hy=>hi i (by have:=lS hx;have:=lS hy;omega) x y hx hy)];unfold DN;repeat (split<;>try omega)
end Go.Sy.Num1
