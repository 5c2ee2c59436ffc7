/-
  Texts joined; facts and events written out.
  Conditions: those that each theorem states.
-/
import Derived.Test.YtmjmglkogcomaaaGreatDoorEv
import Derived.Test.YtmjmglkogcomaaaGreatDoorOwn2
import Derived.Lib.Join
import Derived.Test.YtmjmglkogcomaaaGreatDoorTypes
import Derived.Test.YtmjmglkogcomaaaGreatDoorCur
import Derived.Great.BuildSlice
import Derived.Test.YtmjmglkogcomaaaGreatDoorFct
import Derived.Test.YtmjmglkogcomaaaGreatDoorDrw4
import Derived.Test.YtmjmglkogcomaaaGreatDoorMat5
import Derived.Test.YtmjmglkogcomaaaGreatDoorDrn
import Derived.Test.YtmjmglkogcomaaaGreatDoorEv3
import Derived.Test.YtmjmglkogcomaaaGreatDoorEng
import Derived.Test.YtmjmglkogcomaaaGreatDoorShelf
import Derived.Test.YtmjmglkogcomaaaGreatDoorMch
section
namespace Go.Sy
open Go
end Go.Sy
end
/-
  Drawn results become borrowed: a new base world.
  Conditions: none.
-/
section
namespace Go.Sy
open Go Go.RowKit
section
variable {P:Program} {N:Nat} {w0:World} {H:List Chunk} {L:Fm} {Q:Exit->Act->World->Prop} {o:Oper} {d:Nat} {K:Act->World->Prop}
end
end Go.Sy
end
/-
  Lists of several flat elements, parts of owned lists, results that are only readable.
  Conditions: none.
-/
section
namespace Go.Sy
open Go Go.RowKit
section
variable {P:Program} {N:Nat} {w0:World} {H:List Chunk} {L:Fm} {Q:Exit->Act->World->Prop} {o:Oper} {d:Nat} {K:Act->World->Prop}
end
end Go.Sy
end
/-
  Contracts of functions of the program, walked (printed by a program of ours).
  Conditions: those that each theorem states.
-/
section
set_option linter.unusedVariables false
set_option maxRecDepth 20000
namespace Go.Sy.Lawi
open Go Go.RowKit Go.Proofs Go.Sy
open Go.Sy.Bel1 Go.Sy.Ev1 Go.Sy.Fmt1 Go.Sy.Eng1 Go.Sy.Eng2 Go.Sy.Eng3 Go.Sy.Eng4 Go.Sy.Num1 Go.Sy.Num2 Go.Sy.Fal2 Go.Sy.Cho2 Go.Sy.Mat1 Go.Sy.Num3 Go.Sy.Mat2 Go.Sy.Cmp2 Go.Sy.Mat3 Go.Sy.Put1 Go.Sy.Mat5 Go.Sy.Put2 Go.Sy.Ev3 Go.Sy.Par1 Go.Sy.Drw1 Go.Sy.Drw2 Go.Sy.Drw4
theorem B9a{w:World}{a:Value}{code:(List UInt8)}(b:Gd.rd w [a] code):Cy 7 [a] w (Val w (.bool (decide (4096<code.length)))):=by
 have c:=rM b;refine enter 6 Tryz.func7 Y Y Y<|Sr<|Pe Y<|Sr<|p1 Y<|dl lU Y (AE b)<|PE 2 Y<|Ct<|Rb Y Y ?_;show((decide ((4096:Int)<((code.length:Nat):Int))):Bool)=_;simp;omega
theorem C9C{w:World}{m:Value}{a:(List Int)}{o:Value}{b:(List Int)}(c:Gd.rd w [m] a)(f:Gd.rd w [o] b):Cy 20 [m,o] w (Val w (.bool (decide (a=b)))):=by
 have a3:=rM c;have a4:=rM f;refine enter 26 Tryz.func20 Y Y Y<|Sr<|Pe Y<|Cq<|Sr<|p1 Y<|dl C1s Y (AE c)<|p1 Y<|dl C1s Y (AE f)<|Pe Y<|Cn Y (λx=>?_) λx=>?_
 ·refine Sr<|Pe Y<|Ct<|Xr<|Rb Y Y ?_;simp;intro e;subst e;simp_all
 ·refine Sk<|Cq<|Sr<|Pe Y<|Cb<|Cl (λm_ v w'=>∃(k:Nat),(k<=a.length)/\(∀i,i<k->a[i]?=b[i]?)/\m_=a.length-k/\Fits v 26 [(0,m),(1,o),(5,nv k)]/\St w ([]) w') ?_ ?_
  ·refine λv w' p d=>⟨_,0,?_,?_,Y,p.wk Y,d⟩
   ·omega
   ·intro i hi;omega
  ·rintro m_ v w' ⟨k,hk,hi,rfl,p,d⟩;refine D.use ?_ p d;clear p d v w';refine Cq<|Sr<|P2 Y Y<|dl C1s Y (AE c)<|Pe Y<|Cd Y (λy=>?_) λy=>?_
   ·refine Sk<|Cq<|Cb<|Cq<|A0 mixed [] (by kernel_rfl)<|tK 7 [0,1] Y ?_;obtain⟨x5,q⟩:=sI a k;obtain⟨z,a2,a0⟩:=AC (n:=1) rfl c q;obtain rfl:z=[.int .i64 x5]:=a0;refine Tk 2 Y Y (AJ (l:=a) (j:=k) C1s Y Y Y (λw' d=>rA d c) Y<|lS q)<|Tk 3 Y Y (HI CJ Y Y a2 Y)<|tK 3 [4,5] Y ?_;obtain⟨a1,g⟩:=sI b k;obtain⟨r,s,t⟩:=AC (n:=1) rfl f g;obtain rfl:r=[.int .i64 a1]:=t;refine Tk 6 Y Y (AJ (l:=b) (j:=k) C1s Y Y Y (λw' d=>rA d f) Y<|lS g)<|Tk 7 Y Y (HI CJ Y Y s Y)<|tR 8 Y Y<|tE<|Xt<|Cn Y (λu=>?_) λu=>?_
    ·refine Sr<|Pe Y<|Ct<|Xq<|Xr<|Xr<|Xq<|Xr<|Rb Y Y ?_;simp;intro e;subst e;simp_all
    ·refine Ck<|Xb<|Xt<|Cr<|p1 Y<|ad (k+1) Y<|Pe Y λv w' p d=>⟨_,?_,k+1,?_,?_,Y,p.wk Y,d⟩
     ·omega
     ·omega
     ·refine DF hi ‹_› ‹_› ?_;simp_all
   ·refine Cx<|Xx<|Xx<|Xe<|Xt<|Sr<|Pe Y<|Ct<|Rb Y Y ?_;simp;exact C7 (by omega) (λi h=>hi i (by omega))
set_option maxHeartbeats 8000000 in
theorem laws_FnStepKeeps(w:World)(f:Value)(code:(List UInt8))(h:Gd.rd w [f] code)(ap:Tb w):Cy 4 [f] w (Val w (.bool (true))):=by
 have da:=rM h;refine CX 135 Tryz.func4 Y Y Y (GL w w)<|Sr<|Pe Y<|Dh [fz w w] Y<|Cq<|Sr<|p1 Y<|qv b_7 Y (λw' a=>B9a<|B0 0 (E4.refl _) a Y h)<|Dx<|Ci _ Y (λh2=>?_) λh2=>?_
 ·refine Sr<|Pe Y<|Ct<|Xr<|Rb Y Y ?_;rfl
 ·refine Sk<|Sr<|p1 Y<|li Y (czE (α:=C1P) A6X Y Y Y Y (E4.refl _) (λw' c9 dm=>C8x w' _ c9 f code h) λb db ce bf dc aq=>?_);obtain⟨u9,a7,a8,a9,rfl,av,aw,aa,ab⟩:=C6 aq;have cp:=rM av;have cq:=rM aw;have cr:=rM aa;have cs:=rM ab;refine MS 12 (v':=(.agg #[u9,a7,iv b.g,a8,.bool b.p,a9])) Y Y Y (aL C5i Y λbe=>?_);refine li Y<|AZ (vs:=[u9,a7,iv b.g,a8,.bool b.p,a9]) (cs':=[u9,a7,iv b.g,a8,.bool b.p,a9]) 0 A6c Y Y Y Y Y Y (AB (A2 av)<|AB (A2 aw)<|AB Y<|AB (A2 aa)<|AB Y<|AB (A2 ab) BR) (by simp) Y ?_;refine Dx<|Dh [bx be [u9,a7,iv b.g,a8,.bool b.p,a9],fz w ce] Y<|Cq ?_;have hsz:=Nat.le_trans bf.1 (by decide:40000<=1048576);have co:=bf.2;refine Cr<|q1 Y (C9 0 C4u Y Y Y) (ql A6a Y (λw' a=>N3 (B0 1 (E4.refl _) a Y aq) (by exact hsz)<|Tb.ext ap a.bel) λc8=>?_);refine Pe Y<|Dh [ov [c8] (HY b:(List C3z)),_,_] Y<|Sr<|q1 Y (C9 1 C4u Y Y Y) (qc2 B4E Y (λw' a=>B0S (B0 2 (E4.refl _) a Y aq) hsz<|Tb.ext ap a.bel) λct bg=>?_);refine Dp (λw' a=>H5<|rO (k:=0) a Y) ?_;rintro⟨a5,a6,a3,a4,rfl,bh,bi,bj,bk⟩;refine Dp (λw' a=>show bg=[(.bool (stB b))] from rO (k:=1) a Y) ?_;rintro rfl;refine MS 17 (v':=(.tuple #[(.agg #[a5,a6,iv ((stE b).g),a3,.bool ((stE b).p),a4]),.bool<|stB b])) Y Y Y<|AG [0,2,3,4] Y<|P3 Y Y Y (aL C5i Y λb3=>?_);refine li Y<|AZ (vs:=[a5,a6,iv ((stE b).g),a3,.bool ((stE b).p),a4]) (cs':=[a5,a6,iv ((stE b).g),a3,.bool ((stE b).p),a4]) 0 A6c Y Y Y Y Y Y (AB bh<|AB bi<|AB Y<|AB bj<|AB Y<|AB bk BR) (by simp) Y ?_;refine Pe Y<|Dh [bx b3 [a5,a6,iv ((stE b).g),a3,.bool ((stE b).p),a4],ov [a5,a6,iv ((stE b).g),a3,.bool ((stE b).p),a4] (stE b:C1P),_,_,_] Y<|Cq<|Sr<|PE 2 Y<|AH [3,4,5,21] Y<|CN Y (λbl=>?_) λbl=>?_
  ·refine Sr<|q1 Y (C9 0 C4u Y Y Y)<|q1 Y (C9 3 C4u Y Y Y)<|qv wG Y (λw' a=>C2M (rO (k:=1) a Y)<|B0 4 (E4.refl _) a Y aq)<|Pe Y<|Ct<|Xr<|Rb Y Y ?_;show((decide ((stE b)=b)):Bool)=_;exact decide_eq_true (A8j ‹_›).1.symm
  ·refine Sk<|Cq<|Cq ?_;have a0:stB b=true:=by assumption
   have dk:=C3a a0;have dn:=C9R a0;have c9:=A9C a0;refine AG [1,4,0,2,3] Y (MY (E4.refl _) λcu ax ay=>?_);have bm:=Gd.rd_sub ax aa;have bn:=Gd.rd_sub ax ab;obtain⟨ca,cc,cd,cb,e_,cw,cx,bo,bp⟩:=C6 ay
   cases e_
   refine AG [2,0,1,3] Y (MY (E4.refl _) λv x e=>?_);have ae:=Gd.rd_sub x bm;have bq:=Gd.rd_sub x bn;have a1:=Gd.rd_sub x bo;have br:=Gd.rd_sub x bp;have az:=Gd.rd_sub x ay;have cy:=rM e;refine A0 mixed [1,2,3,4,5,6,7,8,16,17,18,32,33,34,47,48,49] (by kernel_rfl)<|Tk 0 Y Y (C9 1 C4u Y Y Y)<|ty 1 Y Y<|cv B4C Y Y Y Y (λw' a=>WL (B0 0 (E4.refl _) a Y az) (B3B hsz)<|Tb.ext ap a.bel) ?_;refine tZ Y<|tW 2 Y Y Y<|tW 3 Y Y Y<|JQ 28 Y Y (λbs=>?_) λbs=>?_
   ·refine tK 43 [4,5,6] Y<|tW 7 Y Y Y<|tW 8 Y Y Y<|tK 33 [9,10,11,12,13,14,15,16] Y<|tW 17 Y Y Y<|tW 18 Y Y Y<|tK 22 [19,20,21,22,23,24,25,26,27] Y ?_;refine tK 17 [28,29,30,31,32] Y<|tW 33 Y Y Y<|tW 34 Y Y Y<|tK 1 [35,36,37,38,39,40,41,42,43,44,45,46,47,48] Y<|tW 49 Y Y Y<|tE<|Xt ?_;refine AH [3,4,5,74] Y<|Dh [fz w v,_,_] Y<|GF Y<|Sr<|Pe Y<|Ct<|Xr<|Rb Y Y ?_;exfalso;simp_all
   ·refine tW 4 Y Y Y<|ty 5 Y Y<|sv Y Y (Dl C5c Y Y<|AE e) ?_;refine tZ Y<|tW 6 Y Y Y<|tW 7 Y Y Y<|tW 8 Y Y Y<|oV 33 Y Y (λbt=>?_) λbt=>?_
    ·refine tK 33 [9,10,11,12,13,14,15,16] Y<|tW 17 Y Y Y<|tW 18 Y Y Y<|tK 17 [19,20,21,22,23,24,25,26,27,28,29,30,31,32] Y ?_;refine tW 33 Y Y Y<|tW 34 Y Y Y<|tK 1 [35,36,37,38,39,40,41,42,43,44,45,46,47,48] Y<|tW 49 Y Y Y<|tE<|Xt<|AH [3,4,5,74] Y<|Dh [fz w v,_,_] Y<|GF Y<|Sr ?_;refine Pe Y<|Ct<|Xr<|Rb Y Y ?_;exfalso;omega
    ·refine Tk 9 Y Y (Db C5G Y Y (q:=3) Y)<|Tk 10 Y Y (lb 1 C6A Y Y Y Y)<|Tk 11 Y Y (Dl C5k Y Y<|AE a1)<|Tk 12 Y Y (Db C5G Y Y (q:=3) Y)<|Tk 13 Y Y (lb 2 C6A Y Y Y Y)<|Tk 14 Y Y (Dl C5k Y Y<|AE ae)<|Tk 15 Y Y (DW Y Y Y (r:=((b.m.length+1:Nat):Int)) (by omega) (by omega))<|tW 16 Y Y Y<|tW 17 Y Y Y<|tW 18 Y Y Y<|gxn 43 Y Y (λbu=>?_) λbu=>?_
     ·refine tK 17 [19,20,21,22,23,24,25,26,27,28,29,30,31,32] Y<|tW 33 Y Y Y<|tW 34 Y Y Y<|tK 7 [35,36,37,38,39,40,41,42] Y ?_;refine tK 1 [43,44,45,46,47,48] Y<|tW 49 Y Y Y<|tE<|Xt<|AH [3,4,5,74] Y<|Dh [fz w v,_,_] Y<|GF Y<|Sr<|Pe Y<|Ct<|Xr<|Rb Y Y ?_;exfalso;omega
     ·refine Tk 19 Y Y (Db C5G Y Y (q:=3) Y)<|Tk 20 Y Y (lb 1 C6A Y Y Y Y)<|Tk 21 Y Y (Db C5G Y Y (q:=3) Y)<|Tk 22 Y Y (lb 2 C6A Y Y Y Y)<|Tk 23 Y Y (Dl C5k Y Y<|AE ae) ?_;obtain⟨f0,ar⟩:=sI ((stE b).m) (b.m.length);have dd:=C9T a0 ar;obtain⟨cz,b0,bv⟩:=AC (n:=2) rfl a1 ar;obtain⟨de,rfl,b1⟩:=BQ bv;have d1:=rM b1;refine Tk 24 Y Y (AJ (l:=((stE b).m)) (j:=b.m.length) C5k Y Y Y (λw' a=>B0 0 (E4.refl _) a Y a1) Y<|lS ar)<|Tk 25 Y Y (B2 C5u Y Y)<|Tk 26 Y Y (lrz 0 (E4.refl _) Y BK Y Y b0 Y)<|tR 27 Y Y ?_;obtain⟨d0,a2⟩:=sI (HY b) 0;have df:=C9S a0 a2;obtain⟨d2,af,bw⟩:=AC (n:=7) rfl e a2;obtain⟨dg,dh,di,rfl,bz,c0,ag⟩:=BF bw;have d3:=rM bz;have d4:=rM c0;have d5:=rM ag;refine Tk 28 Y Y (AJ (l:=HY b) (j:=0) C5c Y Y Y (λw' a=>B0 0 (E4.refl _) a Y e) Y<|lS a2)<|Tk 29 Y Y (B2 C1t Y Y)<|Tk 30 Y Y (JP C5r Y Y (q:=0) Y)<|Tk 31 Y Y (lrz 0 (E4.refl _) Y BK Y Y af Y)<|ty 32 Y Y<|sv Y Y (E5 Y Y Y) ?_;refine tZ Y<|tW 33 Y Y Y<|tW 34 Y Y Y<|A3C 59 Y Y (λc1=>?_) λc1=>?_
      ·refine tK 1 [35,36,37,38,39,40,41,42,43,44,45,46,47,48] Y<|tW 49 Y Y Y<|tE<|Xt<|AH [3,4,5,74] Y<|Dh [fz w v,_,_] Y<|GF Y<|Sr<|p1 Y<|De ?_;refine Xt<|Ct<|Xr<|Rb Y Y ?_;exfalso;simp_all
      ·refine Tk 35 Y Y (Db C5G Y Y (q:=3) Y)<|Tk 36 Y Y (lb 1 C6A Y Y Y Y)<|Tk 37 Y Y (Db C5G Y Y (q:=3) Y)<|Tk 38 Y Y (lb 2 C6A Y Y Y Y)<|Tk 39 Y Y (Dl C5k Y Y<|AE ae)<|Tk 40 Y Y (AJ (l:=((stE b).m)) (j:=b.m.length) C5k Y Y Y (λw' a=>B0 0 (E4.refl _) a Y a1) Y<|lS ar)<|Tk 41 Y Y (B2 C5l Y Y)<|Tk 42 Y Y (lrz 0 (E4.refl _) Y C2J Y Y b0 Y)<|tR 43 Y Y<|Tk 44 Y Y (AJ (l:=HY b) (j:=0) C5c Y Y Y (λw' a=>B0 0 (E4.refl _) a Y e) Y<|lS a2)<|Tk 45 Y Y (B2 C1q Y Y)<|Tk 46 Y Y (lrz 0 (E4.refl _) Y C2J Y Y af Y)<|ty 47 Y Y<|cv A6b Y Y Y Y (λw' a=>C9C (B0 0 (E4.refl _) a Y b1)<|B0 0 (E4.refl _) a Y ag) ?_;refine tZ Y<|tW 48 Y Y Y<|tW 49 Y Y Y<|tE<|Xt<|AH [3,4,5,74] Y<|Dh [fz w v,_,_] Y<|CN Y (λc2=>?_) λc2=>?_
       ·refine Sr<|Pe Y<|Ct<|Xr<|Rb Y Y ?_;exfalso;simp_all
       ·refine Sk<|Sr<|q1 Y (C9 1 C4u Y Y Y) (ql A6a Y (λw' a=>N3 (B0 0 (E4.refl _) a Y az) (by exact B3B hsz)<|Tb.ext ap a.bel) λv85=>?_);refine Pe Y<|Dh [ov [v85] (HY (stE b):(List C3z)),_,_,_] Y<|Cq<|Cq (MY (E4.refl _) λah y b2=>?_);have c3:=Gd.rd_sub y bq;have c4:=Gd.rd_sub y e;have c5:=Gd.rd_sub y br;have b4:=Gd.rd_sub y ag;have b5:=LN.sub af y;have cf:=rM b2;refine Cr<|Pe Y<|Dh [fz w ah,_,_] Y<|Cb<|Cl (λm_ ac w'=>∃(d:World),∃(i:Nat),(E4 ah d)/\(i<=(HY<|stE b).length)/\m_=(HY<|stE b).length-i/\Fits ac 135 [(3,pv be),(4,c8),(5,pv b3),(7,v85),(8,nv i)]/\St w ([fz w d,bx b3 [a5,a6,iv ((stE b).g),a3,.bool ((stE b).p),a4],bx be [u9,a7,iv b.g,a8,.bool b.p,a9]]) w') ?_ ?_
        ·refine λac w' hf a=>⟨_,ah,0,E4.refl _,?_,Y,hf.wk Y,a⟩
         ·omega
        ·rintro m_ ac w' ⟨d,i,c,hi,rfl,hf,a⟩;refine D.use ?_ hf a;clear hf a ac w';have z:=Gd.rd_sub c c3;have ai:=Gd.rd_sub c c4;have o:=Gd.rd_sub c c5;have b6:=Gd.rd_sub c b4;have t:=Gd.rd_sub c b2;have aj:=LN.sub b5 c;refine Cq<|Sr<|P2 Y Y<|dl C5c Y (AE t)<|Pe Y<|Dh [_,_,_] Y<|Cd Y (λb7=>?_) λb7=>?_
         ·refine Sk<|Cq<|Cb<|Cq<|A0 mixed [22,23] (by kernel_rfl)<|tK 22 [0,1] Y ?_;obtain⟨x0,au⟩:=sI (HY (stE b)) i;have dj:=C9Q a0 au;obtain⟨cg,ak,b8⟩:=AC (n:=7) rfl t au;obtain⟨d6,d7,d8,rfl,b9,ba,al⟩:=BF b8;have ch:=rM b9;have ci:=rM ba;have cj:=rM al;refine Tk 2 Y Y (AJ (l:=HY<|stE b) (j:=i) C5c Y Y Y (λw' a=>B0 0 (E4.refl _) a Y t) Y<|lS au)<|Tk 3 Y Y (B2 C1t Y Y)<|Tk 4 Y Y (JP C5r Y Y (q:=0) Y)<|Tk 5 Y Y (lrz 0 (E4.refl _) Y BK Y Y ak Y)<|tR 6 Y Y<|Tk 7 Y Y (AJ (l:=HY b) (j:=0) C5c Y Y Y (λw' a=>B0 0 (E4.refl _) a Y ai) Y<|lS a2)<|Tk 8 Y Y (B2 C1t Y Y)<|Tk 9 Y Y (JP C5r Y Y (q:=0) Y)<|Tk 10 Y Y (lrz 0 (E4.refl _) Y BK Y Y aj Y)<|Tk 11 Y Y (DO Y Y Y)<|tR 12 Y Y<|EY 95 Y Y (λbb=>?_) λbb=>?_
          ·refine tK 9 [13,14] Y<|Tk 15 Y Y (AJ (l:=HY<|stE b) (j:=i) C5c Y Y Y (λw' a=>B0 0 (E4.refl _) a Y t) Y<|lS au)<|Tk 16 Y Y (B2 C1q Y Y)<|Tk 17 Y Y (lrz 0 (E4.refl _) Y C2J Y Y ak Y)<|tR 18 Y Y<|Tk 19 Y Y (AJ (l:=HY b) (j:=0) C5c Y Y Y (λw' a=>B0 0 (E4.refl _) a Y ai) Y<|lS a2)<|Tk 20 Y Y (B2 C1q Y Y)<|Tk 21 Y Y (lrz 0 (E4.refl _) Y C2J Y Y aj Y)<|ty 22 Y Y<|cv A6b Y Y Y Y (λw' a=>C9C (B0 0 (E4.refl _) a Y al)<|B0 0 (E4.refl _) a Y b6) ?_;refine tZ Y<|tW 23 Y Y Y<|tE<|Xt<|AH [3,4,5,7,8,106] Y<|Ci _ Y (λc6=>?_) λc6=>?_
           ·refine Sr<|Pe Y<|Ct<|Xq<|Xr<|Xr<|Xq<|Xr<|Rb Y Y ?_;exfalso;simp_all
           ·refine Ck<|Xb<|Xt<|Cr<|p1 Y<|ad (i+1) Y<|Pe Y λac w' hf a=>⟨_,?_,d,i+1,c,?_,Y,hf.wk Y,a⟩
            ·omega
            ·omega
          ·refine tK 1 [13,14,15,16,17,18,19,20,21,22] Y<|tW 23 Y Y Y<|tE<|Xt<|AH [3,4,5,7,8,106] Y<|G7 Y<|Ck<|Xb<|Xt<|Cr<|p1 Y<|ad (i+1) Y<|Pe Y ?_;refine λac w' hf a=>⟨_,?_,d,i+1,c,?_,Y,hf.wk Y,a⟩
           ·omega
           ·omega
         ·refine Cx<|Xx<|Xx<|Xe<|Xt<|Sr<|fl 1 C4O C5U Y<|dl C4v Y (AE o)<|fl 2 C4O C5U Y<|dl C4v Y (AE z)<|P2 Y Y<|EY 114 Y Y (λbc=>?_) λbc=>?_
          ·refine fl 1 C4O C5U Y<|fl 2 C4O C5U Y<|dl C4v Y (AE z) ?_;obtain⟨v0,am⟩:=sI ((stE b).u) (b.u.length);have ck:=C9U a0 am;have cn:=(B3E co).2.2.2.2.2 _ (List.mem_of_getElem? am);obtain⟨cl,an,ao⟩:=AC (n:=4) rfl o am;obtain⟨d9,rfl,bd⟩:=D2 ao;have cm:=rM bd;refine q1 Y (AJ (l:=((stE b).u)) (j:=b.u.length) C4v Y Y Y (λw' a=>B0 0 (E4.refl _) a Y o) Y<|lS am)<|q1 Y (SO 0 (E4.refl _) Y C2U Y Y an)<|qv A6h Y (λw' a=>YW (B0 0 (E4.refl _) a Y ao) cn)<|P2 Y Y<|gs 124 Y Y (λc7=>?_) λc7=>?_
           ·refine fl 1 C4O C5U Y<|fl 2 C4O C5U Y<|dl C4v Y (AE z)<|q1 Y (AJ (l:=((stE b).u)) (j:=b.u.length) C4v Y Y Y (λw' a=>B0 0 (E4.refl _) a Y o) Y<|lS am)<|q1 Y (B2 C1y Y Y)<|q1 Y (lrz 0 (E4.refl _) Y CJ Y Y an Y)<|PE 3 Y<|Ct<|Rb Y Y ?_;show(((v0.s:Int)==3):Bool)=_;exact decide_eq_true ck.1
           ·refine PE 11 Y<|Ct<|Rb Y Y ?_;exfalso;simp_all
          ·refine PE 21 Y<|Ct<|Rb Y Y ?_;exfalso;omega
end Go.Sy.Lawi
end
