/-
  Contracts of functions of the program, walked (printed by a program of ours).
  Conditions: those that each theorem states.
-/
import Derived.Test.YtbnpgdcpbmaebaaGreatDoorFct
import Derived.Test.YtbnpgdcpbmaebaaGreatDoorDrw2
import Derived.Test.YtbnpgdcpbmaebaaGreatDoorMat2
import Derived.Test.YtbnpgdcpbmaebaaGreatDoorSlc
import Derived.Test.YtbnpgdcpbmaebaaGreatDoorNum2
import Derived.Test.YtbnpgdcpbmaebaaGreatDoorCho2
import Derived.Test.YtbnpgdcpbmaebaaGreatDoorCho
set_option linter.unusedVariables false
set_option maxRecDepth 20000
namespace Go.Sy.Drw3
open Go Go.RowKit Go.Proofs Go.Sy
open Go.Sy.Bel1 Go.Sy.Ev1 Go.Sy.Fmt1 Go.Sy.Eng1 Go.Sy.Eng2 Go.Sy.Eng3 Go.Sy.Num1 Go.Sy.Num2 Go.Sy.Fal2 Go.Sy.Cho2 Go.Sy.Mat1 Go.Sy.Mat2 Go.Sy.Cmp2 Go.Sy.Par1 Go.Sy.Drw1 Go.Sy.Drw2
theorem C1Z(w0 wz wb:World)(hz:E4 wz w0)(h:List Chunk)(w:World)(c:Nat)(f:Value)(code:List UInt8)(a:Value)(facts:(List Fact))(a0:Gd.rd w0 [f] code)(d:Gd.rd wb [a] facts)(ag:facts.length<=100)(a7:St w0 (fz wz wb::cu c f code.length::h) w):Cy 140 [(pv c),a] w (λe w'=>∃(y:List Stamp) (u:Value) (wb':World),(y.length=facts.length/\∀s∈y,s.Fact∈facts/\okI s.Time)/\E4 wb wb'/\e= .returned u/\St w0 (oz wb' u y::fz wz wb'::cu c f code.length::h) w'):=by
 have ah:=rM a0;have ai:=rM d;refine CX 39 Tryz.func140 Y Y Y a7 (Sr (Pe Y (Dh (fz wz wb::cu c f code.length::h) Y (Sr (li Y (MZ (α:=Stamp) wb C1h Y Y Y λv3=>?_))))));refine Pe Y (Dh (oz wb v3 ([]:List Stamp)::_::_::h) Y (Sr (li Y (FL (α:=Int) AU Y Y Y λv4=>?_))));refine Pe Y (Dh (ov [v4] ([]:(List Int))::_::_::_::h) Y (Cq (Sr (Pe Y (Cb (Cl (λm_ ac w'=>∃(g:World),∃(i:Nat),∃(out:List Stamp),∃(us:List Int),∃(v:Value),∃(v2:Value),(E4 wb g)/\(i<=facts.length)/\(out.length=i)/\(us.length=i)/\(∀u∈us,u<=12+(i:Int))/\(∀s∈out,s.Fact∈facts/\okI s.Time)/\m_=facts.length-i/\Fits ac 39 [(0,(pv c)),(1,a),(5,v),(6,v2),(7,(nv i))]/\St w0 (ov [v2] (us:(List Int))::oz g v (out:List Stamp)::fz wz g::cu c f code.length::h) w') ?_ ?_))))))
 ·refine A3 0 Y (show([]:(List Int))=([]) from by first|rfl|simp|(simp;omega)) (DZ 1 Y (show([]:(List Stamp))=([]) from by first|rfl|simp|(simp;omega)) (λac w' hf hs=>⟨_,wb,0,[],[],v3,v4,(E4.refl _),?_,?_,?_,?_,?_,Y,hf.wk Y,hs⟩))
  ·first|assumption|omega|simp
  ·first|assumption|omega|simp
  ·first|assumption|omega|simp
  ·intro u hu;cases hu
  ·intro u hu;cases hu
 ·rintro m_ ac w' ⟨g,i,out,us,v,v2,x,hi,hol,hul,hus,hout,rfl,hf,hs⟩;refine D.use ?_ hf hs;clear hf hs ac w';have a1:=Gd.rd_sub x d;refine Cq (Sr (P2 Y Y (dl C4N Y (AE a1) (Pe Y (Dh (_::_::_::_::h) Y (Cd Y (λa8=>?_) (λa8=>?_)))))))
  ·refine Sk (Cq (Cb (Sr (p1 Y (BZ [3] 0 Y (li Y (ccI A6r Y Y Y Y (λw' hs=>C4K _ _ w' c f code 12 a0 hs) λy9 a2=>?_)))))));have aa:=a2.1;have ab:=a2.2;refine q1 Y (DW Y Y Y Y (by omega)) (Pe Y (Dh (_::_::_::_::h) Y (Cq (Cb (Cl (λm_ ac w'=>∃(b:World),∃(t:Int),(E4 g b)/\(1<=t/\t<=13+(i:Int))/\m_=(14+(i:Int)-t).toNat/\Fits ac 39 [(0,(pv c)),(1,a),(5,v),(6,v2),(7,(nv i)),(8,(iv t))]/\St w0 (cu c f code.length::ov [v2] (us:(List Int))::oz b v (out:List Stamp)::fz wz b::h) w') ?_ ?_)))))
   ·refine λac w' hf hs=>⟨_,g,(1+y9),(E4.refl _),?_,Y,hf.wk Y,hs⟩
    ·first|assumption|omega|simp
   ·rintro m_ ac w' ⟨b,t,m,ht,rfl,hf,hs⟩;refine D.use ?_ hf hs;clear hf hs ac w';have q:=Gd.rd_sub m a1;refine Cq (Sr (P2 Y Y (qv A0N Y (λw' hs=>(gT (rO (k:=1) hs Y))) (Dx (Dh (_::_::_::_::h) Y (Ci _ Y (λa9=>?_) (λa9=>?_)))))))
    ·refine Sk (Cb (Cr (p1 Y (q1 Y (DW Y Y Y Y (by omega)) (p1 Y (De (Xb (Xt (λac w' hf hs=>⟨_,?_,b,(t+1),m,?_,Y,hf.wk Y,hs⟩)))))))))
     ·have:=hus t (List.contains_iff_mem.1 ‹_›);omega
     ·have:=hus t (List.contains_iff_mem.1 ‹_›);omega
    ·refine Cx (Xx (Xx (Xe (Xt (Sr (P2 Y Y (li Y (FF AU vH Y (by decide) (by decide) Y Y Y Y Y Y λg14=>?_))))))));refine O7 t (BZ [1,1,3] 0 Y (li Y (GZ AU vH Y (by decide) Y Y Y Y Y Y (by first|omega|(simp;omega)) (by first|omega|(simp;omega)) λa3=>?_)));refine Pe Y (Dh (ov [a3] (us++ [t]:(List Int))::_::_::_::h) Y (Cr (P3 Y Y Y ?_)));obtain⟨o,z⟩:=sI facts i;obtain⟨ae,a4,a5⟩:=AC (n:=2) rfl q z;obtain⟨p,rfl,r⟩:=AS a5;have af:=rM r;refine q1 Y (AJ (l:=facts) (j:=i) C4N Y Y Y (λw' hs=>(B0 3 hz hs Y q)) Y (lS z)) (q1 Y (SO 3 hz Y B4Z Y Y a4) (p1 Y (q1 Y (FJ (vs:=[(0,(.agg #[(.string o.Rel),p])),(1,(iv t))]) (xs:=[(0,[(.string o.Rel),p]),(1,[(iv t)])]) (cs:=[(.string o.Rel),p,(iv t)]) C2f Y ⟨Y,Y,⟨Y,Y,trivial⟩⟩ Y Y) (li Y (FF C1h C1o Y (by decide) (by decide) Y Y Y Y Y Y λg22=>?_)))));have a6:Gd.rd b [(.string o.Rel),p,(iv t)] (⟨o,t⟩:Stamp):=C1b (⟨o,t⟩:Stamp) r;refine ML (α:=Stamp) a6 (BZ [1,1,4] 0 Y (li Y (TK (α:=Stamp) C1h C1o Y (by decide) Y Y Y Y Y Y (by first|omega|(simp;omega)) (by first|omega|(simp;omega)) λv24=>?_)));refine p1 Y (De (Xb (Xt (AH [0,1,5,6,7] Y (Dh (oz b v24 (out++ [(⟨o,t⟩:Stamp)]:List Stamp)::_::_::_::h) Y (Cr (p1 Y (ad (i+1) Y (Pe Y (A3 1 Y (show(us++ [t]:(List Int))=(us++ [t]) from by first|rfl|simp|(simp;omega)) (DZ 0 Y (show(out++ [(⟨o,t⟩:Stamp)]:(List Stamp))=(out++ [(⟨o,t⟩:Stamp)]) from by first|rfl|simp|(simp;omega)) (λac w' hf hs=>⟨_,?_,b,i+1,out++ [(⟨o,t⟩:Stamp)],us++ [t],v24,a3,(x.trans m),?_,?_,?_,?_,?_,Y,hf.wk Y,hs.fd [2,3,2,3] 0 Y⟩))))))))))))
     ·omega
     ·first|assumption|omega|simp
     ·simp;omega
     ·simp;omega
     ·exact B6E (λu hu=>by have:=hus u hu;omega) (by omega)
     ·exact B6E hout ⟨List.mem_of_getElem? z,by show okI t;unfold okI;omega⟩
  ·refine Cx (Xx (Xx (Xe (Xt (Sr (P2 Y Y (Dx (Ct (FV Y Y λw' hs=>⟨out,v,g,?_,x,Y,hs.fd [] 1 Y⟩)))))))));exact⟨by omega,hout⟩
theorem C4B(w0 wz wb:World)(y:E4 wz w0)(Hs:List Chunk)(w:World)(c:Nat)(d:Value)(code:List UInt8)(p:Gd.rd w0 [d] code)(ab:St w0 (fz wz wb::cu c d code.length::Hs) w):Cy 75 [(pv c)] w (λe w'=>∃(ya:List Rule) (yb:List Stamp) (yc:List Match) (c1 c2 c3:List Value) (wb':World),(AR ya=true/\(yb.length<=8/\∀s∈yb,smS s)/\yc=DX ya (yb.map Stamp.Fact))/\E4 wb wb'/\Gd.rd wb' c1 ya/\Gd.rd wb' c2 yb/\Gd.rd wb' c3 yc/\e= .returned (.tuple #[Gd.vl (List Rule) c1,Gd.vl (List Stamp) c2,Gd.vl (List Match) c3])/\St w0 (fz wz wb'::cu c d code.length::Hs) w'):=by
 have aw:=rM p;refine CX 19 Tryz.func75 Y Y Y ab (Sr (P3 Y Y Y (Dx (Dh (fz wz wb::cu c d code.length::Hs) Y (Sr (p1 Y (BZ [1] 0 Y (li Y (ccR (α:=List Rule) A6l Y Y Y Y (λw' hs=>C2g _ _ w' c d code 4 p (by first|assumption|omega) (by first|assumption|omega) hs) λy2 ax z=>?_)))))))));have af:=z.1;have ag:=z.2;refine Dp (λw' hs=>CL (rO (k:=0) hs Y)) ?_;rintro⟨v4,rfl⟩;refine MS 8 (v':=v4) Y Y Y (Pe Y (Dh (ov [v4] (y2:(List Rule))::_::_::Hs) Y (Sr (P2 Y Y (BZ [1] 0 Y (li Y (ccR (α:=List Fact) A0X Y Y Y Y (λw' hs=>B6F _ _ w' c d code 8 p (by first|assumption|omega) (by first|assumption|omega) hs) λy5 ay q=>?_)))))));have ah:=q.1;have ai:=q.2;refine Dp (λw' hs=>CL (rO (k:=0) hs Y)) ?_;rintro⟨v7,rfl⟩;refine MS 11 (v':=v7) Y Y Y (BZ [3,1] 0 Y (MY y λaz ac h=>?_));have aj:=rM h;refine li Y (C4Z (α:=Stamp) A3x Y Y Y Y (λw' hs=>C1Z _ _ _ y _ w' c d code v7 y5 p h (by first|assumption|omega) hs) λl a0 r f t=>?_);have ad:=f.1;have ae:=f.2;have a1:=Gd.rd_sub t h;refine Pe Y (Dh (oz r a0 (l:List Stamp)::fz wz r::_::_::Hs) Y (Cq ?_));have a2:=z.1;have hrk:=C2n a2;have hms:=C4m f.2 q.2;have hml:l.length<=8:=by have:=q.1;have:=f.1;omega
 have hsk:=C4b hml hms;refine Cr (P3 Y Y Y (p1 Y (ql A7K Y (λw' hs=>(QL (hT (i:=0) (j:=1) y hs Y Y) hsk.1)) λv17=>?_)));refine BZ [2,4] 0 Y (MY y λak m u=>?_);have a3:=Gd.rd_sub m a1;refine MM (α:=Stamp) 2 m Y ?_;have al:=rM u;refine BZ [0,1] 0 Y (MY y λam g n=>?_);have v:=Gd.rd_sub g u;have a4:=Gd.rd_sub g a3;refine MM (α:=Stamp) 1 g Y ?_;have an:=rM n;refine li Y (cz (α:=List Match) A7J Y Y Y Y y (λw' hsb=>S0 w' _ hsb v4 y2 v17 (l.map Stamp.Fact) v n (Nat.le_trans hrk.2 (by decide)) hrk.1 (jW hsk.2)) λao ap a o=>?_);have a5:=Gd.rd_sub a v;have a6:=Gd.rd_sub a a4;have a7:=Gd.rd_sub a n;refine MM (α:=Stamp) 1 a Y ?_;obtain⟨v36,rfl⟩:=CL o;have aq:=rM o;refine MS 18 (v':=v36) Y Y Y (P3 Y Y Y (Dx (Ct (BZ [0,1] 0 Y (IJ (α:=Stamp) y λa8 b x=>?_)))));have a9:=Gd.rd_sub b a5;have ar:=Gd.rd_sub b a6;have au:=Gd.rd_sub b a7;have aa:=Gd.rd_sub b o;have av:=rM x;refine B8Y Y (D8 Y) (D8 Y) (D8 Y) λw' hs=>⟨y2,l,(DX y2 (l.map Stamp.Fact)),[v4],[a0],[v36],a8,?_,(((((ac.trans t).trans m).trans g).trans a).trans b),a9,x,aa,Y,hs⟩
 exact⟨a2,⟨hml,hms⟩,rfl⟩
end Go.Sy.Drw3
