/-
  Contracts of functions of the program, walked (printed by a program of ours).
  Conditions: those that each theorem states.
-/
import Derived.Test.YtmjmglkogcomaaaGreatDoorEng3
import Derived.Test.YtmjmglkogcomaaaGreatDoorNum
set_option linter.unusedVariables false
set_option maxRecDepth 20000
namespace Go.Sy.Num1
open Go Go.RowKit Go.Proofs Go.Sy
theorem C7v:Tryz.prog.isIface 199=true:=by kernel_rfl
open Go.Sy.Bel1 Go.Sy.Ev1 Go.Sy.Fmt1 Go.Sy.Eng1 Go.Sy.Eng2 Go.Sy.Eng3
theorem UL(w:World)(s:ByteArray)(hl:s.size<=18)(a:Tb w):Cy 192 [Value.string s] w (λe w'=>∃x,e= .returned (.tuple #[.int .i64 (aN s),x])/\A1t (aE s) x/\Ex w w'):=by
 cases e:Lib.atoi s.data.toList with
 | some n=>
  refine(Tryz.strconv_Atoi s n hl e w).mono λe' w' ⟨he,t,hw⟩=>⟨.nilIface,?_, .inr ⟨?_,Y⟩,?_⟩
  ·rw[he];simp[aN,e]
  ·simp[aE,e]
  ·rw[hw];exact Go.Joins.below_bytesWorld _ w 5 t (Nat.le_refl _)
 | none=>
  obtain⟨tp,p,b⟩:=a.2;refine(Tryz.strconv_Atoi_err_var s hl e tp p w b).mono λe' w' ⟨N,he,_,_,hb⟩=>?_
  have h0:aN s=0:=by simp[aN,e]
  have h1:aE s=true:=by simp[aE,e]
  rw[h0,h1];exact⟨_,he, .inl ⟨rfl,_,_,rfl⟩,hb⟩
theorem K0(w:World)(a b:ByteArray):Cy 113 [Value.string a,Value.string b] w (Val w (iv (PT a b))):=
 (Tryz.strings_Compare a b w).mono λe w' ⟨he,hw⟩=>⟨by rw[he,xJ],hw▸Ex.refl w⟩
theorem I0{w:World}{s:ByteArray}(b:Tb w):Cy 152 [(.string s)] w (O8 w (pI s:Int) (pO s:Bool)):=by
 refine enter 36 Tryz.func152 Y Y Y<|Sr<|PE 2 Y<|Cq<|Sr<|p1 Y<|q1 Y (FZ F5 Y Y)<|P2 Y Y<|EY 9 Y Y (λd=>?_) λd=>?_
 ·refine PE 4 Y<|GF Y<|Sr<|PE 2 Y<|Ct<|Xr<|O7 0<|AX false<|AG [1,0] Y (DL Y (D8 Y) (D8 Y) λw' a=>AY (c1:=[iv 0]) (c2:=[.bool false]) a ?_ ?_)
  ·show(0:Int)=pI s;exact(XE (by omega)).1
  ·show(false:Bool)=pO s;exact(XE (by omega)).2
 ·refine p1 Y<|q1 Y (FZ F5 Y Y)<|PE 2 Y<|Cd Y (λe=>?_) λe=>?_
  ·refine Sr<|PE 2 Y<|Ct<|Xr<|O7 0<|AX false<|AG [1,0] Y (DL Y (D8 Y) (D8 Y) λw' a=>AY (c1:=[iv 0]) (c2:=[.bool false]) a ?_ ?_)
   ·show(0:Int)=pI s;exact(XE (by omega)).1
   ·show(false:Bool)=pO s;exact(XE (by omega)).2
  ·refine Sk<|Sr<|p1 Y<|li Y (cve (g:=λx=> .tuple #[.int .i64<|aN s,x]) (J:=A1t<|aE s) A0R Y Y Y Y (λw' a=>UL w' s (by omega)<|Tb.ext b a.bel) λj c=>?_);refine PE 5 Y<|AH [0,4,5] Y<|Cq<|Cq ?_;have l:=A1x s (by omega);refine Cr<|p1 Y<|q1 Y (xG C7v Y Y c)<|p1 Y<|gs 21 Y Y (λk=>?_) λk=>?_
   ·refine PE 13 Y<|AH [4,34] Y<|GF Y<|Sr<|PE 2 Y<|Ct<|Xr<|O7 0<|AX false ?_;refine AG [1,0] Y (DL Y (D8 Y) (D8 Y) λw' a=>AY (c1:=[iv 0]) (c2:=[.bool false]) a ?_ ?_)
    ·show(0:Int)=pI s;exact(A0n ‹_›).1
    ·show(false:Bool)=pO s;exact(A0n ‹_›).2
   ·refine P3 Y Y Y<|p1 Y<|EY 25 Y Y (λf=>?_) λf=>?_
    ·refine PE 9 Y<|AH [4,34] Y<|GF Y<|Sr<|PE 2 Y<|Ct<|Xr<|O7 0<|AX false<|AG [1,0] Y (DL Y (D8 Y) (D8 Y) λw' a=>AY (c1:=[iv 0]) (c2:=[.bool false]) a ?_ ?_)
     ·show(0:Int)=pI s;exact(ZK (by omega)).1
     ·show(false:Bool)=pO s;exact(ZK (by omega)).2
    ·refine P3 Y Y Y<|p1 Y<|EY 29 Y Y (λh=>?_) λh=>?_
     ·refine PE 5 Y<|AH [4,34] Y<|GF Y<|Sr<|PE 2 Y<|Ct<|Xr<|O7 0<|AX false<|AG [1,0] Y (DL Y (D8 Y) (D8 Y) λw' a=>AY (c1:=[iv 0]) (c2:=[.bool false]) a ?_ ?_)
      ·show(0:Int)=pI s;exact(ZK (by omega)).1
      ·show(false:Bool)=pO s;exact(ZK (by omega)).2
     ·refine p1 Y<|qv A4O Y (λw' a=>UG (by omega)<|Tb.ext b a.bel)<|p1 Y<|q1 Y (E5 Y Y Y)<|Pe Y<|AH [4,34] Y<|R8 Y (λi=>?_) λi=>?_
      ·refine Sr<|PE 2 Y<|Ct<|Xr<|O7 0<|AX false<|AG [1,0] Y (DL Y (D8 Y) (D8 Y) λw' a=>AY (c1:=[iv 0]) (c2:=[.bool false]) a ?_ ?_)
       ·show(0:Int)=pI s;exact(A0o ‹_›).1
       ·show(false:Bool)=pO s;exact(A0o ‹_›).2
      ·refine Sk<|Sr<|PE 3 Y<|Ct<|O7 (aN s)<|AX true<|AG [1,0] Y (DL Y (D8 Y) (D8 Y) λw' a=>AY (c1:=[iv<|aN s]) (c2:=[.bool true]) a ?_ ?_)
       ·show((aN s):Int)=pI s;exact(xI (n:=aN s) (by omega) (by omega) ‹_›).1
       ·show(true:Bool)=pO s;exact(xI (n:=aN s) (by omega) (by omega) ‹_›).2
theorem LG{w:World}{s:ByteArray}:Cy 247 [(.string s)] w (O8 w (pI s:Int) (pO s:Bool)):=by
 refine enter 39 Tryz.func247 Y Y Y<|Sr<|PE 2 Y<|Cq<|Sr<|p1 Y<|q1 Y (FZ F5 Y Y)<|qv B3Y Y (λw' a=>E7)<|Pe Y<|CN Y (λf=>?_) λf=>?_
 ·refine Sr<|PE 2 Y<|Ct<|Xr<|O7 0<|AX false<|AG [1,0] Y (DL Y (D8 Y) (D8 Y) λw' a=>AY (c1:=[iv 0]) (c2:=[.bool false]) a ?_ ?_)
  ·show(0:Int)=pI s;exact(XE (by unfold GO at*;simp_all;omega)).1
  ·show(false:Bool)=pO s;exact(XE (by unfold GO at*;simp_all;omega)).2
 ·refine Sk<|Sr<|Pe Y<|Cq<|Sr<|Pe Y<|Cb<|Cl (λo d w'=>∃(k:Nat),∃(b:Int),(k<=s.size)/\(dvT s k b)/\o=s.size-k/\Fits d 39 [(0,.string s),(4,iv b),(5,nv k)]/\St w ([]) w') ?_ ?_
  ·refine λd w' c a=>⟨_,0,0,?_,?_,Y,c.wk Y,a⟩
   ·omega
   ·exact rS s
  ·rintro o d w' ⟨k,b,t,e,rfl,c,a⟩;refine D.use ?_ c a;clear c a d w';have p:s.size<=4:=by unfold GO at*;simp_all;omega
   have m:=rV e (by omega);refine Cq<|Sr<|P2 Y Y<|q1 Y (FZ F5 Y Y)<|Pe Y<|Cd Y (λg=>?_) λg=>?_
   ·refine Sk<|Cq<|Cb<|Cq<|Sr<|P2 Y Y<|q1 Y (HL (j:=k) F5 Y Y Y Y (by omega))<|P2 Y Y<|EY 20 Y Y (λh=>?_) λh=>?_
    ·refine PE 5 Y<|GF Y<|Sr<|PE 2 Y<|Ct<|Xr<|Xq<|Xr<|Xr<|Xq<|Xr<|O7 0<|AX false<|AG [1,0] Y (DL Y (D8 Y) (D8 Y) λw' a=>AY (c1:=[iv 0]) (c2:=[.bool false]) a ?_ ?_)
     ·show(0:Int)=pI s;exact(ZL (k:=k) (by omega) (by omega)).1
     ·show(false:Bool)=pO s;exact(ZL (k:=k) (by omega) (by omega)).2
    ·refine P2 Y Y<|q1 Y (HL (j:=k) F5 Y Y Y Y (by omega))<|PE 2 Y<|Cd Y (λi=>?_) λi=>?_
     ·refine Sr<|PE 2 Y<|Ct<|Xr<|Xq<|Xr<|Xr<|Xq<|Xr<|O7 0<|AX false<|AG [1,0] Y (DL Y (D8 Y) (D8 Y) λw' a=>AY (c1:=[iv 0]) (c2:=[.bool false]) a ?_ ?_)
      ·show(0:Int)=pI s;exact(ZL (k:=k) (by omega) (by omega)).1
      ·show(false:Bool)=pO s;exact(ZL (k:=k) (by omega) (by omega)).2
     ·refine Sk<|Cr ?_;have q:=rV e (by omega);have r:=oM s k;refine p1 Y<|q1 Y (A1u Y Y Y (by omega))<|P2 Y Y<|q1 Y (HL (j:=k) F5 Y Y Y Y (by omega))<|q1 Y (A1v Y Y Y (by omega))<|q1 Y (A5W LO ⟨_,VL⟩ Y Y (by omega))<|q1 Y (DW Y Y Y Y (by omega))<|p1 Y<|De<|Xb<|Xt<|AH [0,4,5] Y<|Cr<|p1 Y<|ad (k+1) Y<|Pe Y λd w' c a=>⟨_,?_,k+1,((10*b)+((sB s k)-48)),?_,?_,Y,c.wk Y,a⟩
      ·omega
      ·omega
      ·exact rU e (by omega) (by omega) (by omega)
   ·refine Cx<|Xx<|Xx<|Xe<|Xt<|Cq<|Sr<|p1 Y<|qv A3s Y (λw' a=>UH (by omega))<|p1 Y<|q1 Y (E5 Y Y Y)<|Dx<|R8 Y (λl=>?_) λl=>?_
    ·refine Sr<|PE 2 Y<|Ct<|Xr<|O7 0<|AX false<|AG [1,0] Y (DL Y (D8 Y) (D8 Y) λw' a=>AY (c1:=[iv 0]) (c2:=[.bool false]) a ?_ ?_)
     ·show(0:Int)=pI s;exact(A0p e (by omega) ‹_›).1
     ·show(false:Bool)=pO s;exact(A0p e (by omega) ‹_›).2
    ·refine Sk<|Sr<|PE 3 Y<|Ct<|O7 b<|AX true<|AG [1,0] Y (DL Y (D8 Y) (D8 Y) λw' a=>AY (c1:=[iv b]) (c2:=[.bool true]) a ?_ ?_)
     ·show(b:Int)=pI s;exact(xI (n:=b) (by omega) (by omega) ‹_›).1
     ·show(true:Bool)=pO s;exact(xI (n:=b) (by omega) (by omega) ‹_›).2
theorem BP{w:World}{a:Int}{b:Int}:Cy 115 [(iv a),(iv b)] w (Val w (iv (DN a b))):=by
 refine enter 13 Tryz.func115 Y Y Y<|Sr<|Pe Y<|Cq<|Cb<|Sr<|PE 4 Y<|Cd Y (λc=>?_) λc=>?_
 ·refine Sr<|Pe Y<|Ct<|Xq<|Xr<|Ri Y Y ?_;show((-1):Int)=_;unfold DN;repeat (split<;>try omega)
 ·refine Sr<|PE 4 Y<|Cd Y (λd=>?_) λd=>?_
  ·refine Sr<|Pe Y<|Ct<|Xq<|Xr<|Ri Y Y ?_;show(1:Int)=_;unfold DN;repeat (split<;>try omega)
  ·refine Ck<|Xb<|Xt<|Sr<|Pe Y<|Ct<|Ri Y Y ?_;show(0:Int)=_;unfold DN;repeat (split<;>try omega)
theorem UM{w:World}{a:ByteArray}{b:ByteArray}:Cy 221 [(.string a),(.string b)] w (Val w (iv (PT a b))):=by
 refine enter 13 Tryz.func221 Y Y Y<|Sr<|Pe Y<|Cq<|Cb<|Sr<|P2 Y Y<|q1 Y (A3A Y Y Y)<|Pe Y<|Ci _ Y (λh1=>?_) λh1=>?_
 ·refine Sr<|Pe Y<|Ct<|Xq<|Xr<|Ri Y Y ?_;show((-1):Int)=_;unfold PT;simp_all
 ·refine Sr<|P2 Y Y<|q1 Y (oQ Y Y Y)<|Pe Y<|CN Y (λc=>?_) λc=>?_
  ·refine Sr<|Pe Y<|Ct<|Xq<|Xr<|Ri Y Y ?_;show(1:Int)=_;refine A1y ?_ ?_<;>simp_all
  ·refine Ck<|Xb<|Xt<|Sr<|Pe Y<|Ct<|Ri Y Y ?_;show(0:Int)=_;unfold PT;simp_all
theorem QJ{w:World}{a:ByteArray}{b:ByteArray}(c:Tb w):Cy 114 [(.string a),(.string b)] w (Val w (iv (GX a b))):=by
 refine enter 34 Tryz.func114 Y Y Y<|Sr<|Pe Y<|Sr<|p1 Y<|lM bB Y (λw' d=>I0<|Tb.ext c d.bel) (v:=(.tuple #[iv<|pI a,.bool<|pO a])) Y<|PE 5 Y<|Sr<|p1 Y<|lM bB Y (λw' d=>I0<|Tb.ext c d.bel) (v:=(.tuple #[iv<|pI b,.bool<|pO b])) Y<|PE 5 Y<|Cq<|Cb<|Sr ?_;refine P2 Y Y<|gs 21 Y Y (λe=>?_) λe=>?_
 ·refine PE 3 Y<|AH [0,1,5,6,7,8,19] Y<|Ci _ Y (λg=>?_) λg=>?_
  ·refine Sr<|P2 Y Y<|qv qG Y (λw' d=>BP)<|Pe Y<|Ct<|Xq<|Xr<|Ri Y Y ?_;show((DN (pI a) (pI b)):Int)=_;unfold GX;simp_all
  ·refine Sr<|PE 2 Y<|I4 Y e<|Sr<|Pe Y<|Ct<|Xq<|Xr<|Ri Y Y ?_;show((-1):Int)=_;unfold GX;simp_all
 ·refine PE 3 Y<|AH [0,1,5,6,7,8,19] Y<|G7 Y<|Sr<|PE 2 Y<|aM Y e<|Sr<|PE 2 Y<|Ci _ Y (λf=>?_) λf=>?_
  ·refine Sr<|Pe Y<|Ct<|Xq<|Xr<|Ri Y Y ?_;show(1:Int)=_;unfold GX;simp_all
  ·refine Ck<|Xb<|Xt<|Sr<|P2 Y Y<|qv bA Y (λw' d=>K0 w' a b)<|Pe Y<|Ct<|Ri Y Y ?_;show((PT a b):Int)=_;unfold GX;simp_all
theorem K1{w:World}{a:ByteArray}{b:ByteArray}:Cy 222 [(.string a),(.string b)] w (Val w (iv (GX a b))):=by
 refine enter 54 Tryz.func222 Y Y Y<|Sr<|Pe Y<|Sr<|p1 Y<|lM B3P Y (λw' i=>LG) (v:=(.tuple #[iv<|pI a,.bool<|pO a])) Y<|PE 5 Y<|Sr<|p1 Y<|lM B3P Y (λw' i=>LG) (v:=(.tuple #[iv<|pI b,.bool<|pO b])) Y<|PE 5 Y<|Cq<|Cb<|Cq<|Cq ?_;refine Cr<|P2 Y Y<|gs 21 Y Y (λc=>?_) λc=>?_
 ·refine P3 Y Y Y<|gs 24 Y Y (λe=>?_) λe=>?_
  ·refine PE 5 Y<|AH [0,1,5,6,7,8,19] Y<|Cd Y (λf=>?_) λf=>?_
   ·refine Sk<|I4 Y (decide_eq_true f)<|Sr<|Pe Y<|Ct<|Xq<|Xr<|Ri Y Y ?_;show((-1):Int)=_;unfold GX DN;simp_all;try omega
   ·refine Cr<|P2 Y Y<|gkt 30 Y Y c<|PE 4 Y<|aM Y (TI e) ?_;have j:(!(pO b))=false:=(TI e);refine Cq<|Sr<|P2 Y Y<|gkt 36 Y Y c<|P3 Y Y Y<|gkt 39 Y Y e<|PE 5 Y<|AH [0,1,6,8,34] Y<|Cd Y (λd=>?_) λd=>?_
    ·refine Sk<|I4 Y (decide_eq_true d)<|Sr<|Pe Y<|Ct<|Xq<|Xr<|Ri Y Y ?_;show(1:Int)=_;unfold GX DN;simp_all;try omega
    ·refine Cr<|P2 Y Y<|gkt 45 Y Y e<|PE 4 Y<|aM Y (TI c) ?_;have k:(!(pO a))=false:=(TI c);refine Sr<|PE 2 Y<|I4 Y c<|Sr<|Pe Y<|Ct<|Xq<|Xr<|Ri Y Y ?_;show(0:Int)=_;unfold GX DN;simp_all;try omega
  ·refine PE 5 Y<|AH [0,1,5,6,7,8,19] Y<|G7 Y<|Cr<|P2 Y Y<|gkt 30 Y Y c<|PE 4 Y<|I4 Y (VJ e) ?_;have l:(!(pO b))=true:=(VJ e);refine Sr<|Pe Y<|Ct<|Xq<|Xr<|Ri Y Y ?_;show((-1):Int)=_;unfold GX DN;simp_all;try omega
 ·refine PE 8 Y<|AH [0,1,5,6,7,8,19] Y<|G7 Y<|Cr<|P2 Y Y<|gkf 30 Y Y c<|PE 4 Y<|G7 Y<|Cq<|Sr<|P2 Y Y<|gkf 36 Y Y c ?_;refine PE 8 Y<|AH [0,1,6,8,34] Y<|G7 Y<|Cr<|P2 Y Y<|gs 45 Y Y (λg=>?_) λg=>?_
  ·refine PE 4 Y<|I4 Y (VJ c) ?_;have h:(!(pO a))=true:=(VJ c);refine Sr<|Pe Y<|Ct<|Xq<|Xr<|Ri Y Y ?_;show(1:Int)=_;unfold GX DN;simp_all;try omega
  ·refine PE 4 Y<|G7 Y<|Sr<|PE 2 Y<|aM Y c<|Ck<|Xb<|Xt<|Sr<|P2 Y Y<|qv iV Y (λw' i=>UM)<|Pe Y<|Ct<|Ri Y Y ?_;show((PT a b):Int)=_;unfold GX DN;simp_all;try omega
theorem K2{w:World}{p:List Value}{a:C1G}{r:List Value}{b:C1G}(a4:Gd.rd w p a)(a5:Gd.rd w r b)(a6:Tb w):Cy 76 [(.agg p.toArray),(.agg r.toArray)] w (Val w (iv (HS a b))):=by
 obtain⟨u1,rfl,d⟩:=AS a4;have a8:=rM d;obtain⟨u4,rfl,e⟩:=AS a5;have a9:=rM e;refine enter 51 Tryz.func76 Y Y Y<|Sr (bX Y λg7=>?_);refine bX Y λg8=>?_
 refine Pe Y<|Dh [bx g8 [.string b.p5,u4],bx g7 [.string a.p5,u1]] Y<|Cq<|Sr<|fl 1 C5V BK Y<|fl 0 C5V BK Y<|qv bA Y (λw' c=>K0 w' a.p5 b.p5)<|Pe Y<|Sr<|PE 2 Y<|Cn Y (λa7=>?_) λa7=>?_
 ·refine Sr<|PE 2 Y<|Ct<|Xr<|Ri Y Y ?_;show((PT a.p5 b.p5):Int)=_;exact rX (by omega)
 ·refine Sk<|Cq<|Sr<|Pe Y<|Cb<|Cl (λm_ ac w'=>∃(k:Nat),(k<=a.a.length)/\(k<=b.a.length)/\(∀i,i<k->∀x y,a.a[i]?=some x->b.a[i]?=some y->GX x y=0)/\m_=a.a.length-k/\Fits ac 51 [(2,pv g7),(3,pv g8),(6,nv k)]/\St w ([bx g8 [.string b.p5,u4],bx g7 [.string a.p5,u1]]) w') ?_ ?_
  ·refine λac w' o c=>⟨_,0,?_,?_,?_,Y,o.wk Y,c⟩
   ·omega
   ·omega
   ·intro i hi;omega
  ·rintro m_ ac w' ⟨k,aa,ab,hi,rfl,o,c⟩;refine D.use ?_ o c;clear o c ac w';refine Cq<|Sr<|p1 Y<|fl 1 C4Q VN Y<|dl HJ Y (AE d)<|P2 Y Y<|EY 21 Y Y (λs=>?_) λs=>?_
   ·refine p1 Y<|fl 0 C4Q VN Y<|dl HJ Y (AE e)<|PE 2 Y<|Cd Y (λt=>?_) λt=>?_
    ·refine Sk<|Cq<|Cb<|Cq<|A0 mixed [10,11] (by kernel_rfl)<|Tk 0 Y Y (Db C4Q Y Y (q:=1) Y)<|Tk 1 Y Y (lb 1 VN Y Y Y Y)<|tR 2 Y Y ?_;obtain⟨x0,f⟩:=sI a.a k;obtain⟨u,v,z⟩:=AC (n:=1) rfl d f;obtain rfl:u=[.string x0]:=z;refine Tk 3 Y Y (AJ (l:=a.a) (j:=k) HJ Y Y Y (λw' c=>rA c d) Y<|lS f)<|Tk 4 Y Y (HI BK Y Y v Y)<|Tk 5 Y Y (Db C4Q Y Y (q:=1) Y)<|Tk 6 Y Y (lb 0 VN Y Y Y Y)<|tR 7 Y Y ?_;obtain⟨y0,g⟩:=sI b.a k;obtain⟨a0,a1,a2⟩:=AC (n:=1) rfl e g;obtain rfl:a0=[.string y0]:=a2;refine Tk 8 Y Y (AJ (l:=b.a) (j:=k) HJ Y Y Y (λw' c=>rA c e) Y<|lS g)<|Tk 9 Y Y (HI BK Y Y a1 Y)<|ty 10 Y Y<|cv jC Y Y Y Y (λw' c=>QJ<|Tb.ext a6 c.bel) ?_;refine tZ Y<|tW 11 Y Y Y<|tE<|Xt<|AH [2,3,6,7] Y<|Sr<|PE 2 Y<|Cn Y (λa3=>?_) λa3=>?_
     ·refine Sr<|PE 2 Y<|Ct<|Xq<|Xr<|Xr<|Xq<|Xr<|Ri Y Y ?_;show((GX x0 y0):Int)=_;exact cL (gC (by omega)) hi f g (by omega)
     ·refine Ck<|Xb<|Xt<|Cr<|p1 Y<|ad (k+1) Y<|Pe Y λac w' o c=>⟨_,?_,k+1,?_,?_,?_,Y,o.wk Y,c⟩
      ·omega
      ·omega
      ·omega
      ·refine AF hi ?_;intro x y m h;obtain rfl:x=x0:=Option.some.inj (m.symm.trans f);obtain rfl:y=y0:=Option.some.inj (h.symm.trans g);omega
    ·refine Cx<|Xx<|Xx<|Xe<|Xt<|Sr<|fl 1 C4Q VN Y<|dl HJ Y (AE d)<|fl 0 C4Q VN Y<|dl HJ Y (AE e)<|qv qG Y (λw' c=>BP)<|Pe Y<|Ct<|Ri Y Y ?_;show((DN ((a.a.length:Nat):Int) ((b.a.length:Nat):Int)):Int)=_;exact I9 (gC (by omega)) (λi x y m h=>hi i (by have:=lS m;have:=lS h;omega) x y m h)
   ·refine PE 6 Y<|G7 Y<|Cx<|Xx<|Xx<|Xe<|Xt<|Sr<|fl 1 C4Q VN Y<|dl HJ Y (AE d)<|fl 0 C4Q VN Y<|dl HJ Y (AE e)<|qv qG Y (λw' c=>BP)<|p1 Y ?_;refine Dx<|Ct<|Ri Y Y ?_;show((DN ((a.a.length:Nat):Int) ((b.a.length:Nat):Int)):Int)=_;exact I9 (gC (by omega)) (λi x y m h=>hi i (by have:=lS m;have:=lS h;omega) x y m h)
set_option maxHeartbeats 4000000 in
theorem K3{w:World}{r:List Value}{a:C1G}{s:List Value}{b:C1G}(a9:Gd.rd w r a)(aa:Gd.rd w s b):Cy 175 [(.agg r.toArray),(.agg s.toArray)] w (Val w (iv (HS a b))):=by
 obtain⟨u1,rfl,e⟩:=AS a9;have ae:=rM e;obtain⟨u4,rfl,f⟩:=AS aa;have af:=rM f;refine enter 61 Tryz.func175 Y Y Y<|Sr (bX Y λg7=>?_);refine bX Y λg8=>?_
 refine Pe Y<|Dh [bx g8 [.string b.p5,u4],bx g7 [.string a.p5,u1]] Y<|Cq<|Sr<|fl 1 C5V BK Y<|fl 0 C5V BK Y<|q1 Y (E5 Y Y Y)<|Dx<|R8 Y (λab=>?_) λab=>?_
 ·refine Sr<|fl 1 C5V BK Y<|fl 0 C5V BK Y<|qv iV Y (λw' g=>UM)<|Pe Y<|Ct<|Xr<|Ri Y Y ?_;show((PT a.p5 b.p5):Int)=_;exact xK ‹_›
 ·refine Sk<|Cq<|Sr<|Pe Y<|Cb<|Cl (λm_ ac w'=>∃(k:Nat),(k<=a.a.length)/\(k<=b.a.length)/\(∀i,i<k->∀x y,a.a[i]?=some x->b.a[i]?=some y->GX x y=0)/\m_=a.a.length-k/\Fits ac 61 [(2,pv g7),(3,pv g8),(5,nv k)]/\St w ([bx g8 [.string b.p5,u4],bx g7 [.string a.p5,u1]]) w') ?_ ?_
  ·refine λac w' p g=>⟨_,0,?_,?_,?_,Y,p.wk Y,g⟩
   ·omega
   ·omega
   ·intro i o;omega
  ·rintro m_ ac w' ⟨k,ag,ah,o,rfl,p,g⟩;refine D.use ?_ p g;clear p g ac w';refine Cq<|Sr<|p1 Y<|fl 1 C4Q VN Y<|dl HJ Y (AE e)<|P2 Y Y<|EY 22 Y Y (λt=>?_) λt=>?_
   ·refine p1 Y<|fl 0 C4Q VN Y<|dl HJ Y (AE f)<|PE 2 Y<|Cd Y (λu=>?_) λu=>?_
    ·refine Sk<|Cq<|Cb<|Cq<|A0 mixed [10,11] (by kernel_rfl)<|Tk 0 Y Y (Db C4Q Y Y (q:=1) Y)<|Tk 1 Y Y (lb 1 VN Y Y Y Y)<|tR 2 Y Y ?_;obtain⟨x0,h⟩:=sI a.a k;obtain⟨v,z,a0⟩:=AC (n:=1) rfl e h;obtain rfl:v=[.string x0]:=a0;refine Tk 3 Y Y (AJ (l:=a.a) (j:=k) HJ Y Y Y (λw' g=>rA g e) Y<|lS h)<|Tk 4 Y Y (HI BK Y Y z Y)<|Tk 5 Y Y (Db C4Q Y Y (q:=1) Y)<|Tk 6 Y Y (lb 0 VN Y Y Y Y)<|tR 7 Y Y ?_;obtain⟨y0,m⟩:=sI b.a k;obtain⟨a1,a2,a3⟩:=AC (n:=1) rfl f m;obtain rfl:a1=[.string y0]:=a3;refine Tk 8 Y Y (AJ (l:=b.a) (j:=k) HJ Y Y Y (λw' g=>rA g f) Y<|lS m)<|Tk 9 Y Y (HI BK Y Y a2 Y)<|ty 10 Y Y<|cv pR Y Y Y Y (λw' g=>K1) ?_;refine tZ Y<|tW 11 Y Y Y<|tE<|Xt<|AH [2,3,5,6] Y<|Sr<|PE 2 Y<|Cn Y (λa4=>?_) λa4=>?_
     ·refine Sr<|PE 2 Y<|Ct<|Xq<|Xr<|Xr<|Xq<|Xr<|Ri Y Y ?_;show((GX x0 y0):Int)=_;exact cL ‹_› o h m (by omega)
     ·refine Ck<|Xb<|Xt<|Cr<|p1 Y<|ad (k+1) Y<|Pe Y λac w' p g=>⟨_,?_,k+1,?_,?_,?_,Y,p.wk Y,g⟩
      ·omega
      ·omega
      ·omega
      ·refine AF o ?_;intro x y d c;obtain rfl:x=x0:=Option.some.inj (d.symm.trans h);obtain rfl:y=y0:=Option.some.inj (c.symm.trans m);omega
    ·refine Cx<|Xx<|Xx<|Xe<|Xt<|Cq<|Cb<|Sr<|fl 1 C4Q VN Y<|dl HJ Y (AE e)<|fl 0 C4Q VN Y<|dl HJ Y (AE f)<|PE 2 Y<|AH [2,3,45] Y<|Cd Y (λa5=>?_) λa5=>?_
     ·refine Sr<|Pe Y<|Ct<|Xq<|Xr<|Ri Y Y ?_;show((-1):Int)=_;rw[<-I9 ‹_› (λi x y d c=>o i (by have:=lS d;have:=lS c;omega) x y d c)];unfold DN;repeat (split<;>try omega)
     ·refine Sr<|fl 1 C4Q VN Y<|dl HJ Y (AE e)<|fl 0 C4Q VN Y<|dl HJ Y (AE f)<|PE 2 Y<|Cd Y (λa6=>?_) λa6=>?_
      ·refine Sr<|Pe Y<|Ct<|Xq<|Xr<|Ri Y Y ?_;show(1:Int)=_;rw[<-I9 ‹_› (λi x y d c=>o i (by have:=lS d;have:=lS c;omega) x y d c)];unfold DN;repeat (split<;>try omega)
      ·refine Ck<|Xb<|Xt<|Sr<|Pe Y<|Ct<|Ri Y Y ?_;show(0:Int)=_;rw[<-I9 ‹_› (λi x y d c=>o i (by have:=lS d;have:=lS c;omega) x y d c)];unfold DN;repeat (split<;>try omega)
   ·refine PE 6 Y<|G7 Y<|Cx<|Xx<|Xx<|Xe<|Xt<|Cq<|Cb<|Sr<|fl 1 C4Q VN Y<|dl HJ Y (AE e)<|fl 0 C4Q VN Y<|dl HJ Y (AE f) ?_;refine PE 2 Y<|AH [2,3,45] Y<|Cd Y (λa7=>?_) λa7=>?_
    ·refine Sr<|Pe Y<|Ct<|Xq<|Xr<|Ri Y Y ?_;show((-1):Int)=_;rw[<-I9 ‹_› (λi x y d c=>o i (by have:=lS d;have:=lS c;omega) x y d c)];unfold DN;repeat (split<;>try omega)
    ·refine Sr<|fl 1 C4Q VN Y<|dl HJ Y (AE e)<|fl 0 C4Q VN Y<|dl HJ Y (AE f)<|PE 2 Y<|Cd Y (λa8=>?_) λa8=>?_
     ·refine Sr<|Pe Y<|Ct<|Xq<|Xr<|Ri Y Y ?_;show(1:Int)=_;rw[<-I9 ‹_› (λi x y d c=>o i (by have:=lS d;have:=lS c;omega) x y d c)];unfold DN;repeat (split<;>try omega)
     ·refine Ck<|Xb<|Xt<|Sr<|Pe Y<|Ct<|Ri Y Y ?_;show(0:Int)=_;rw[<-I9 ‹_› (λi x y d c=>o i (by have:=lS d;have:=lS c;omega) x y d c)];unfold DN;repeat (split<;>try omega)
end Go.Sy.Num1
