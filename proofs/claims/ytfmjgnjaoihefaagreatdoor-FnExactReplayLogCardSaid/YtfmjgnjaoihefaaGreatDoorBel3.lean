/-
  Contracts of functions of the program, walked (printed by a program of ours).
  Conditions: those that each theorem states.
-/
import Derived.Test.YtfmjgnjaoihefaaGreatDoorFct
import Derived.Test.YtfmjgnjaoihefaaGreatDoorBel1
set_option linter.unusedVariables false
set_option maxRecDepth 20000
namespace Go.Sy.Bel3
open Go Go.RowKit Go.Proofs Go.Sy
open Go.Sy.Bel1
theorem OT(w0:World)(d:List Chunk)(w:World)(b:Value)(a:(List Int))(k:Int)(h0:0<=k)(h1:k+a.length<=4611686018427387904)(g:St w0 (ov [b] (a:(List Int))::d) w):Cy 80 [b,(iv k)] w (λe w'=>e= .returned (iv (k+a.length))/\St w0 (ov [b] (YU k a:(List Int))::d) w'):=by
 have n:=rM (rO (k:=0) g rfl);refine CX 19 Tryz.func80 Y Y Y g (Sr (Pe Y (Dh (ov [b] (a:(List Int))::d) Y (Cq (Sr (Pe Y (Cb (Cl (λm_ ac w'=>∃(i:Nat),∃(kk:Int),(i<=a.length)/\(kk=k+i)/\m_=a.length-i/\Fits ac 19 [(0,b),(1,(iv kk)),(5,(nv i))]/\St w0 (ov [b] (A5 fI cI k a i:(List Int))::d) w') ?_ ?_))))))))
 ·refine A3 0 Y (show(a:(List Int))=A5 fI cI k a 0 from by rw[E0]) (λac w' hf hs=>⟨_,0,k,?_,?_,Y,hf.wk Y,hs⟩)
  ·omega
  ·omega
 ·rintro m_ ac w' ⟨i,kk,hi,hk,rfl,hf,hs⟩;refine D.use ?_ hf hs;clear hf hs ac w';have hcl:=FP (f:=fI) (c:=cI) (k:=k) hi;refine Cq (Sr (P2 Y Y (q1 Y (B7 0 BS Y Y Y) (Pe Y (Dh (_::d) Y (Cd Y (λm=>?_) (λm=>?_)))))))
  ·refine Sk (Cq (Cb (Sr (P3 Y Y Y ?_))));obtain⟨o,h⟩:=sI (A5 fI cI k a i) i;refine q1 Y (AJ (l:=(A5 fI cI k a i)) (j:=i) BS Y Y Y (λw' hs=>(rO (k:=0) hs Y)) Y (lS h)) (li Y (so (α:=Int) (z:=kk) 0 PC Y Y Y Y Y (lS h) ?_));refine Dx (Dh (ov [b] ((A5 fI cI k a i).set i kk:(List Int))::d) Y (Cr (p1 Y (q1 Y (DW Y Y Y Y (by omega)) (p1 Y (De (Xb (Xt (Cr (p1 Y (ad (i+1) Y (Pe Y (A3 0 Y (show((A5 fI cI k a i).set i kk:(List Int))=A5 fI cI k a (i+1) from by exact wH (by omega) hk) (λac w' hf hs=>⟨_,?_,i+1,(kk+1),?_,?_,Y,hf.wk Y,hs⟩))))))))))))))
   ·omega
   ·omega
   ·omega
  ·refine Cx (Xx (Xx (Xe (Xt (Sr (P2 Y Y (Dx (Ct (A3 0 Y (show(A5 fI cI k a i:(List Int))=YU k a from by exact E1 (by omega)) (FV Y Y λw' hs=>⟨congrArg (λz=>Ending.returned (Value.int .i64 z)) ?_,hs⟩))))))))));show(kk:Int)=k+a.length;omega
theorem WA{w:World}{c:Value}{a:(List Int)}{k:Int}(b:Gd.rd w [c] a)(h0:0<=k)(h1:k+a.length<=4611686018427387904)(o:a=YU k a):Cy 83 [c,(iv k)] w (Val w (iv (k+a.length))):=by
 have p:=rM b;refine enter 21 Tryz.func83 Y Y Y (Sr (Pe Y (Cq (Sr (Pe Y (Cb (Cl (λm_ ac w'=>∃(i:Nat),∃(kk:Int),(i<=a.length)/\(kk=k+i)/\m_=a.length-i/\Fits ac 21 [(0,c),(1,(iv kk)),(5,(nv i))]/\St w ([]) w') ?_ ?_)))))))
 ·refine λac w' hf hs=>⟨_,0,k,?_,?_,Y,hf.wk Y,hs⟩
  ·omega
  ·omega
 ·rintro m_ ac w' ⟨i,kk,hi,hk,rfl,hf,hs⟩;refine D.use ?_ hf hs;clear hf hs ac w';refine Cq (Sr (P2 Y Y (dl BS Y (AE b) (Pe Y (Cd Y (λe=>?_) (λe=>?_))))))
  ·refine Sk (Cq (Cb (Cq (Sr (P2 Y Y ?_)))));obtain⟨q,d⟩:=sI a i;obtain⟨f,g,h⟩:=AC (n:=1) rfl b d;obtain rfl:f=[.int .i64 q]:=h;refine q1 Y (AJ (l:=a) (j:=i) BS Y Y Y (λw' hs=>(rA hs b)) Y (lS d)) (q1 Y (HI CJ Y Y g Y) (P2 Y Y (Dx (Cn Y (λm=>?_) (λm=>?_)))))
   ·refine Sr (Pe Y (Ct (Xr (Xq (Xr (Xr (Xq (Xr (Ri Y Y ?_)))))))));show((-1):Int)=_;exfalso;have:=wI o d;omega
   ·refine Sk (Cr (p1 Y (q1 Y (DW Y Y Y Y (by omega)) (p1 Y (De (Xb (Xt (Cr (p1 Y (ad (i+1) Y (Pe Y (λac w' hf hs=>⟨_,?_,i+1,(kk+1),?_,?_,Y,hf.wk Y,hs⟩))))))))))))
    ·omega
    ·omega
    ·omega
  ·refine Cx (Xx (Xx (Xe (Xt (Sr (P2 Y Y (Dx (Ct (Ri Y Y ?_)))))))));show(kk:Int)=_;omega
end Go.Sy.Bel3
