/-
  Contracts of functions of the program, walked (printed by a program of ours).
  Conditions: those that each theorem states.
-/
import Derived.Test.YtbnpgdcpbmaebaaGreatDoorFct
import Derived.Test.YtbnpgdcpbmaebaaGreatDoorNum2
set_option linter.unusedVariables false
set_option maxRecDepth 20000
namespace Go.Sy.Num3
open Go Go.RowKit Go.Proofs Go.Sy
open Go.Sy.Bel1 Go.Sy.Ev1 Go.Sy.Fmt1 Go.Sy.Eng1 Go.Sy.Eng2 Go.Sy.Eng3 Go.Sy.Num1 Go.Sy.Num2
theorem O2{w:World}{e:Value}{l:(List Firing)}{g:List Value}{x:Choice}(b:Gd.rd w [e] l)(m:Gd.rd w g x):Cy 69 [e,(.agg g.toArray)] w (Val w (.bool (MG l x.Match.Rule x.Times))):=by
 have a4:=rM b;obtain⟨z,u4,u6,rfl,t,u,o⟩:=BF m;have a5:=rM t;have a6:=rM u;have a0:=rM o;have a1:=AQ m;refine enter 31 Tryz.func69 Y Y Y (Sr (bX Y λg12=>?_));refine Pe Y (Dh ([bx g12 [(.string x.Match.Rule),z,u4,(iv x.Priority),u6,(iv x.Specific),(iv x.Order)]]) Y (Cq (Sr (Pe Y (Cb (Cl (λm_ ac w'=>∃(k:Nat),(k<=l.length)/\(∀i,i<k->∀f,l[i]?=some f->¬(f.Rule=x.Match.Rule/\f.Times=x.Times))/\m_=l.length-k/\Fits ac 31 [(0,e),(3,(pv g12)),(5,(nv k))]/\St w ([bx g12 [(.string x.Match.Rule),z,u4,(iv x.Priority),u6,(iv x.Specific),(iv x.Order)]]) w') ?_ ?_))))))
 ·refine λac w' hf hs=>⟨_,0,?_,?_,Y,hf.wk Y,hs⟩
  ·omega
  ·intro i hi;omega
 ·rintro m_ ac w' ⟨k,hk,hi,rfl,hf,hs⟩;refine D.use ?_ hf hs;clear hf hs ac w';refine Cq (Sr (P2 Y Y (dl C1u Y (AE b) (Pe Y (Cd Y (λp=>?_) (λp=>?_))))))
  ·refine Sk (Cq (Cb (Cq (A0 mixed [17,18] (by kernel_rfl) (tK 17 [0,1] Y ?_)))));obtain⟨f0,a⟩:=sI l k;obtain⟨a2,c,r⟩:=AC (n:=2) rfl b a;obtain⟨a7,rfl,d⟩:=BQ r;have a3:=rM d;refine Tk 2 Y Y (AJ (l:=l) (j:=k) C1u Y Y Y (λw' hs=>(rA hs b)) Y (lS a)) (Tk 3 Y Y (B2 C1r Y Y) (Tk 4 Y Y (lr BK Y Y c Y) (Tk 5 Y Y (Db EH Y Y (q:=0) Y) (Tk 6 Y Y (Db C0J Y Y (q:=0) Y) (Tk 7 Y Y (lb 0 BK Y Y Y Y) (Tk 8 Y Y (DO Y Y Y) (tR 9 Y Y (EY 21 Y Y (λs=>?_) (λs=>?_)))))))))
   ·refine tK 7 [10,11] Y (Tk 12 Y Y (AJ (l:=l) (j:=k) C1u Y Y Y (λw' hs=>(rA hs b)) Y (lS a)) (Tk 13 Y Y (B2 C1l Y Y) (Tk 14 Y Y (lr B5 Y Y c Y) (Tk 15 Y Y (Db C2H Y Y (q:=4) Y) (Tk 16 Y Y (lb 0 B5 Y Y Y Y) (ty 17 Y Y (cv A6o Y Y Y Y (λw' hs=>(MP (rA hs d) (rA hs o))) ?_)))))));refine tZ Y (tW 18 Y Y Y (tE (Xt (AH [0,3,5,30] Y (Ci _ Y (λv=>?_) (λv=>?_))))))
    ·refine Sr (Pe Y (Ct (Xq (Xr (Xr (Xq (Xr (Rb Y Y ?_))))))));exact gI a ‹_› (by simp_all)
    ·refine Ck (Xb (Xt (Cr (p1 Y (ad (k+1) Y (Pe Y (λac w' hf hs=>⟨_,?_,k+1,?_,?_,Y,hf.wk Y,hs⟩)))))))
     ·omega
     ·omega
     ·refine AF hi ?_;intro y hy;obtain rfl:y=f0:=Option.some.inj (hy.symm.trans a);simp_all
   ·refine tK 1 [10,11,12,13,14,15,16,17] Y (tW 18 Y Y Y (tE (Xt (AH [0,3,5,30] Y (G7 Y (Ck (Xb (Xt (Cr (p1 Y (ad (k+1) Y (Pe Y (λac w' hf hs=>⟨_,?_,k+1,?_,?_,Y,hf.wk Y,hs⟩)))))))))))))
    ·omega
    ·omega
    ·refine AF hi ?_;intro y hy;obtain rfl:y=f0:=Option.some.inj (hy.symm.trans a);simp_all
  ·refine Cx (Xx (Xx (Xe (Xt (Sr (Pe Y (Ct (Rb Y Y ?_))))))));exact gJ (λi h=>hi i (by omega))
end Go.Sy.Num3
