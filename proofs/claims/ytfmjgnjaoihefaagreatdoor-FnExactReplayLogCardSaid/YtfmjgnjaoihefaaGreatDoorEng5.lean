/-
  Contracts of functions of the program, walked (printed by a program of ours).
  Conditions: those that each theorem states.
-/
import Derived.Test.YtfmjgnjaoihefaaGreatDoorFct
import Derived.Test.YtfmjgnjaoihefaaGreatDoorEng4
import Derived.Test.YtfmjgnjaoihefaaGreatDoorBel3
import Derived.Test.YtfmjgnjaoihefaaGreatDoorRul
set_option linter.unusedVariables false
set_option maxRecDepth 20000
namespace Go.Sy.Eng5
open Go Go.RowKit Go.Proofs Go.Sy
open Go.Sy.Bel1 Go.Sy.Bel3 Go.Sy.Ev1 Go.Sy.Ev2 Go.Sy.Eng1 Go.Sy.Eng2 Go.Sy.Eng3 Go.Sy.Eng4
theorem BH{w:World}{k:Int}(h1:k<=4611686018427387904):Cy 72 [(iv k)] w (Val w (.string (B4 k))):=by
 refine enter 20 Tryz.func72 Y Y Y (Sr (Pe Y (Cq (Sr (P2 Y Y (Dx (Cd Y (λa=>?_) (λa=>?_))))))))
 ·refine Sr (Pe Y (Ct (Xr (Rs Y Y ?_))));show(⟨#[109,48]⟩:ByteArray)=_;exact rN (by omega)
 ·refine Sk (Sr (Pe Y (Cq (Cb (Cl (λm_ ac w'=>∃(nn:Int),∃(s:ByteArray),(dg k nn s)/\m_=nn.toNat/\Fits ac 20 [(0,(iv nn)),(3,(.string s))]/\St w ([]) w') ?_ ?_)))))
  ·refine λac w' hf hs=>⟨_,k,⟨#[]⟩,?_,Y,hf.wk Y,hs⟩
   ·exact wW (by omega)
  ·rintro m_ ac w' ⟨nn,s,hd,rfl,hf,hs⟩;refine D.use ?_ hf hs;clear hf hs ac w';have b:=hd.1;have d:=hd.2.1;have e:=hd.2.2.2;have htm:=jT b;refine Cq (Sr (P2 Y Y (Dx (Cd Y (λc=>?_) (λc=>?_)))))
   ·refine Sk (Cb (Sr (p1 Y (q1 Y (oH Y Y Y Y) (q1 Y (DW Y Y Y Y (by omega)) (q1 Y (oT VL ⟨_,LO⟩ Y Y (by omega)) (li Y (FF pY y_5 Y (by decide) (by decide) Y Y Y Y Y Y λg3=>?_))))))));refine q1 Y (fG 0 YS VL F5 Y Y Y) (p1 Y (q1 Y (aQ Y Y Y (by show 1+s.size<=9223372036854775807;omega)) (Pe Y (Dh ([bx g3 [(.int .u8 (48+(Int.tmod nn 10)))]]) Y (Cr (p1 Y (q1 Y (oS Y Y Y (by omega) (by omega)) (p1 Y (De (Xb (Xt (λac w' hf hs=>⟨_,?_,(nn/10),((⟨#[UInt8.ofNat (48+(Int.tmod nn 10)).toNat]⟩:ByteArray)++s),?_,Y,hf.wk Y,hs.pk [] Y Y⟩))))))))))))
    ·omega
    ·exact wZ hd (by omega)
   ·refine Cx (Xx (Xx (Xe (Xt (Sr (p1 Y (q1 Y (aQ Y Y Y (by show 1+s.size<=9223372036854775807;omega)) (Pe Y (Ct (Rs Y Y ?_))))))))));show((⟨#[109]⟩++s):ByteArray)=_;exact xA hd (by omega) (by omega)
theorem FR(w0:World)(d:List Chunk)(w:World)(b:Value)(a:(List ByteArray))(k:Int)(h0:0<=k)(h1:k+a.length<=4611686018427387904)(g:St w0 (ov [b] (a:(List ByteArray))::d) w):Cy 75 [b,(iv k)] w (λe w'=>e= .returned (iv (k+a.length))/\St w0 (ov [b] (J8 k a:(List ByteArray))::d) w'):=by
 have n:=rM (rO (k:=0) g rfl);refine CX 20 Tryz.func75 Y Y Y g (Sr (Pe Y (Dh (ov [b] (a:(List ByteArray))::d) Y (Cq (Sr (Pe Y (Cb (Cl (λm_ ac w'=>∃(i:Nat),∃(kk:Int),(i<=a.length)/\(kk=k+i)/\m_=a.length-i/\Fits ac 20 [(0,b),(1,(iv kk)),(5,(nv i))]/\St w0 (ov [b] (A5 fS cS k a i:(List ByteArray))::d) w') ?_ ?_))))))))
 ·refine A3 0 Y (show(a:(List ByteArray))=A5 fS cS k a 0 from by rw[E0]) (λac w' hf hs=>⟨_,0,k,?_,?_,Y,hf.wk Y,hs⟩)
  ·omega
  ·omega
 ·rintro m_ ac w' ⟨i,kk,hi,hk,rfl,hf,hs⟩;refine D.use ?_ hf hs;clear hf hs ac w';have hcl:=FP (f:=fS) (c:=cS) (k:=k) hi;refine Cq (Sr (P2 Y Y (q1 Y (B7 0 AU Y Y Y) (Pe Y (Dh (_::d) Y (Cd Y (λm=>?_) (λm=>?_)))))))
  ·refine Sk (Cq (Cb (Sr (P3 Y Y Y (qv L6 Y (λw' hs=>(BH (by omega))) ?_)))));obtain⟨o,h⟩:=sI (A5 fS cS k a i) i;refine q1 Y (AJ (l:=(A5 fS cS k a i)) (j:=i) AU Y Y Y (λw' hs=>(rO (k:=0) hs Y)) Y (lS h)) (li Y (so (α:=ByteArray) (z:=(B4 kk)) 0 VI Y Y Y Y Y (lS h) ?_));refine Dx (Dh (ov [b] ((A5 fS cS k a i).set i (B4 kk):(List ByteArray))::d) Y (Cr (p1 Y (q1 Y (DW Y Y Y Y (by omega)) (p1 Y (De (Xb (Xt (Cr (p1 Y (ad (i+1) Y (Pe Y (A3 0 Y (show((A5 fS cS k a i).set i (B4 kk):(List ByteArray))=A5 fS cS k a (i+1) from by exact xB (by omega) hk) (λac w' hf hs=>⟨_,?_,i+1,(kk+1),?_,?_,Y,hf.wk Y,hs⟩))))))))))))))
   ·omega
   ·omega
   ·omega
  ·refine Cx (Xx (Xx (Xe (Xt (Sr (P2 Y Y (Dx (Ct (A3 0 Y (show(A5 fS cS k a i:(List ByteArray))=J8 k a from by exact E1 (by omega)) (FV Y Y λw' hs=>⟨congrArg (λz=>Ending.returned (Value.int .i64 z)) ?_,hs⟩))))))))));show(kk:Int)=k+a.length;omega
theorem RF{w:World}{c:Value}{a:(List ByteArray)}{k:Int}(b:Gd.rd w [c] a)(h0:0<=k)(h1:k+a.length<=4611686018427387904)(o:a=J8 k a):Cy 122 [c,(iv k)] w (Val w (iv (k+a.length))):=by
 have p:=rM b;refine enter 22 Tryz.func122 Y Y Y (Sr (Pe Y (Cq (Sr (Pe Y (Cb (Cl (λm_ ac w'=>∃(i:Nat),∃(kk:Int),(i<=a.length)/\(kk=k+i)/\m_=a.length-i/\Fits ac 22 [(0,c),(1,(iv kk)),(5,(nv i))]/\St w ([]) w') ?_ ?_)))))))
 ·refine λac w' hf hs=>⟨_,0,k,?_,?_,Y,hf.wk Y,hs⟩
  ·omega
  ·omega
 ·rintro m_ ac w' ⟨i,kk,hi,hk,rfl,hf,hs⟩;refine D.use ?_ hf hs;clear hf hs ac w';refine Cq (Sr (P2 Y Y (dl AU Y (AE b) (Pe Y (Cd Y (λe=>?_) (λe=>?_))))))
  ·refine Sk (Cq (Cb (Cq (Cq (A0 mixed [] (by kernel_rfl) (tK 5 [0,1] Y ?_))))));obtain⟨q,d⟩:=sI a i;obtain⟨f,g,h⟩:=AC (n:=1) rfl b d;obtain rfl:f=[.string q]:=h;refine Tk 2 Y Y (AJ (l:=a) (j:=i) AU Y Y Y (λw' hs=>(rA hs b)) Y (lS d)) (Tk 3 Y Y (HI BK Y Y g Y) (tR 4 Y Y (ty 5 Y Y (cv L6 Y Y Y Y (λw' hs=>(BH (by omega))) ?_))));refine tS (λ_ hs=>hs) (Tk 6 Y Y (E5 Y Y Y) (tE (Xt (R8 Y (λm=>?_) (λm=>?_)))))
   ·refine Sr (Pe Y (Ct (Xr (Xq (Xr (Xr (Xq (Xr (Ri Y Y ?_)))))))));show((-1):Int)=_;exfalso;have:=xC o d;rw[<-hk] at this;contradiction
   ·refine Sk (Cr (p1 Y (q1 Y (DW Y Y Y Y (by omega)) (p1 Y (De (Xb (Xt (Cr (p1 Y (ad (i+1) Y (Pe Y (λac w' hf hs=>⟨_,?_,i+1,(kk+1),?_,?_,Y,hf.wk Y,hs⟩))))))))))))
    ·omega
    ·omega
    ·omega
  ·refine Cx (Xx (Xx (Xe (Xt (Sr (P2 Y Y (Dx (Ct (Ri Y Y ?_)))))))));show(kk:Int)=_;omega
theorem UC(w0:World)(h:List Chunk)(w:World)(d:Value)(a:(List Cond))(k:Int)(h0:0<=k)(h1:k+AI RD a<=4611686018427387904)(j:St w0 (ov [d] (a:(List Cond))::h) w):Cy 73 [d,(iv k)] w (λe w'=>e= .returned (iv (k+AI RD a))/\St w0 (ov [d] (CP nP RD k a:(List Cond))::h) w'):=by
 have o:=rM (rO (k:=0) j rfl);refine CX 53 Tryz.func73 Y Y Y j (Sr (Pe Y (Dh (ov [d] (a:(List Cond))::h) Y (Cq (Sr (Pe Y (Cb (Cl (λm_ ac w'=>∃(i:Nat),∃(kk:Int),(i<=a.length)/\(kk=k+AI RD (a.take i))/\m_=a.length-i/\Fits ac 53 [(0,d),(1,(iv kk)),(5,(nv i))]/\St w0 (ov [d] (A5 nP RD k a i:(List Cond))::h) w') ?_ ?_))))))))
 ·refine A3 0 Y (show(a:(List Cond))=A5 nP RD k a 0 from by rw[E0]) (λac w' hf hs=>⟨_,0,k,?_,?_,Y,hf.wk Y,hs⟩)
  ·omega
  ·simp[AI]
 ·rintro m_ ac w' ⟨i,kk,hi,hk,rfl,hf,hs⟩;refine D.use ?_ hf hs;clear hf hs ac w';have hcl:=FP (f:=nP) (c:=RD) (k:=k) hi;have htk:=AV a RD i;refine Cq (Sr (P2 Y Y (q1 Y (B7 0 D6 Y Y Y) (Pe Y (Dh (_::h) Y (Cd Y (λm=>?_) (λm=>?_)))))))
  ·refine Sk (Cq (Cb (Sr (P3 Y Y Y ?_))));obtain⟨b,g⟩:=sI (A5 nP RD k a i) i;refine K8 g λp=>?_
   refine Dp (λw' hs=>TM (rO (k:=0) hs Y)) ?_;rintro⟨l,rfl,s⟩;refine q1 Y (EL 1 D6 Y Y Y Y Y) ?_;have hstep:=JV hi g hk;have hcc:RD b=4+b.Pattern.Args.length:=rfl;refine q1 Y (B2 C0 Y Y) (BB (α:=Int) (β:=Go.Sy.Pattern × ByteArray × ByteArray) (c1:=[(iv b.Kind)]) (c2:=[(.string b.Pattern.Rel),l,(.string b.Left),(.string b.Right)]) (x:=b.Kind) (y:=(b.Pattern,b.Left,b.Right)) Y Y (BZ [] 1 Y (BB (α:=Go.Sy.Pattern) (β:=ByteArray × ByteArray) (c1:=[(.string b.Pattern.Rel),l]) (c2:=[(.string b.Left),(.string b.Right)]) (x:=b.Pattern) (y:=(b.Left,b.Right)) Y Y (BZ [1] 0 Y (BB (α:=ByteArray) (β:=ByteArray) (c1:=[(.string b.Left)]) (c2:=[(.string b.Right)]) (x:=b.Left) (y:=(b.Right)) Y Y (BZ [] 1 Y (BZ [] 1 Y (li Y (sh (n:=5) (f:=0) 1 Y PC Y Y Y Y Y Y Y (by simp) ?_)))))))));refine Dx (Sr (p1 Y (q1 Y (DW Y Y Y Y (by omega)) (Pe Y (Sr (P3 Y Y Y (qv L6 Y (λw' hs=>(BH (by omega))) (q1 Y (EL 1 D6 Y Y Y Y Y) (q1 Y (B2 CB Y Y) (q1 Y (JP H6 Y Y (q:=1) Y) (li Y (sh (n:=5) (f:=1) 1 Y VI Y Y Y Y Y Y Y (by simp) ?_))))))))))));refine Dx (AH [0,1,5] Y (Sr (p1 Y (q1 Y (DW Y Y Y Y (by omega)) (Pe Y (Sr (P2 Y Y (q1 Y (EL 1 D6 Y Y Y Y Y) (q1 Y (B2 CB Y Y) (q1 Y (JP C4 Y Y (q:=2) Y) (q1 Y (lh (n:=5) 1 Y B5 Y Y Y Y) (p1 Y (BB (α:=ByteArray) (β:=(List ByteArray)) (c1:=[(.string b.Pattern.Rel)]) (c2:=[l]) (x:=b.Pattern.Rel) (y:=(b.Pattern.Args)) Y Y (BZ [] 1 Y (li Y (cm pZ Y Y Y Y (λw' hs=>FR _ _ w' l b.Pattern.Args ((kk+1)+1) (by omega) (by omega) hs) ?_))))))))))))))));refine Pe Y (Sr (P3 Y Y Y (qv L6 Y (λw' hs=>(BH (by omega))) (q1 Y (EL 1 D6 Y Y Y Y Y) (q1 Y (B2 EO Y Y) (li Y (sh (n:=5) (f:=3) 1 Y VI Y Y Y Y Y Y Y (by simp) ?_)))))));refine Dx (AH [0,1,5] Y (Sr (p1 Y (q1 Y (DW Y Y Y Y (by omega)) (Pe Y (Sr (P3 Y Y Y (qv L6 Y (λw' hs=>(BH (by omega))) (q1 Y (EL 1 D6 Y Y Y Y Y) (q1 Y (B2 D5 Y Y) (li Y (sh (n:=5) (f:=4) 1 Y VI Y Y Y Y Y Y Y (by simp) ?_))))))))))));refine Dx (Cr (p1 Y (q1 Y (DW Y Y Y Y (by omega)) (p1 Y (De (Xb (Xt (Cr (p1 Y (ad (i+1) Y (Pe Y (iA (r:=(⟨kk,⟨(B4 (kk+1)),J8 ((kk+1)+1) b.Pattern.Args⟩,(B4 (((kk+1)+1)+b.Pattern.Args.length)),(B4 ((((kk+1)+1)+b.Pattern.Args.length)+1))⟩:Cond)) (OM (A3 0 Y (show((A5 nP RD k a i).set i (⟨kk,⟨(B4 (kk+1)),J8 ((kk+1)+1) b.Pattern.Args⟩,(B4 (((kk+1)+1)+b.Pattern.Args.length)),(B4 ((((kk+1)+1)+b.Pattern.Args.length)+1))⟩:Cond):(List Cond))=A5 nP RD k a (i+1) from by exact MB hi g hk Y) (λac w' hf hs=>⟨_,?_,i+1,(((((kk+1)+1)+b.Pattern.Args.length)+1)+1),?_,?_,Y,hf.wk Y,hs⟩)))))))))))))))
   ·omega
   ·omega
   ·omega
  ·refine Cx (Xx (Xx (Xe (Xt (Sr (P2 Y Y (Dx (Ct (A3 0 Y (show(A5 nP RD k a i:(List Cond))=CP nP RD k a from by exact E1 (by omega)) (FV Y Y λw' hs=>⟨congrArg (λz=>Ending.returned (Value.int .i64 z)) ?_,hs⟩))))))))));show(kk:Int)=k+AI RD a;rw[List.take_of_length_le (by omega)] at hk;exact hk
set_option maxHeartbeats 4000000 in
theorem B0a{w:World}{h:Value}{a:(List Cond)}{k:Int}(b:Gd.rd w [h] a)(h0:0<=k)(h1:k+AI RD a<=4611686018427387904)(z:a=CP nP RD k a):Cy 120 [h,(iv k)] w (Val w (iv (k+AI RD a))):=by
 have a0:=rM b;refine enter 63 Tryz.func120 Y Y Y (Sr (Pe Y (Cq (Sr (Pe Y (Cb (Cl (λm_ ac w'=>∃(i:Nat),∃(kk:Int),(i<=a.length)/\(kk=k+AI RD (a.take i))/\m_=a.length-i/\Fits ac 63 [(0,h),(1,(iv kk)),(5,(nv i))]/\St w ([]) w') ?_ ?_)))))))
 ·refine λac w' hf hs=>⟨_,0,k,?_,?_,Y,hf.wk Y,hs⟩
  ·omega
  ·simp[AI]
 ·rintro m_ ac w' ⟨i,kk,hi,hk,rfl,hf,hs⟩;refine D.use ?_ hf hs;clear hf hs ac w';have htk:=AV a RD i;refine Cq (Sr (P2 Y Y (dl D6 Y (AE b) (Pe Y (Cd Y (λu=>?_) (λu=>?_))))))
  ·refine Sk (Cq (Cb (Cq (Sr (P2 Y Y ?_)))));obtain⟨e,d⟩:=sI a i;obtain⟨a1,f,m⟩:=AC (n:=5) rfl b d;obtain⟨u9,rfl,g⟩:=A8 m;have v:=rM g;have x:=AK m;refine q1 Y (AJ (l:=a) (j:=i) D6 Y Y Y (λw' hs=>(rA hs b)) Y (lS d)) ?_;have hfx:=M7 z d;rw[<-hk] at hfx;have hF0:e.Kind=kk:=congrArg (λy=>y.Kind) hfx;have hF1:e.Pattern.Rel=B4 (kk+1):=congrArg (λy=>y.Pattern.Rel) hfx;have hF2:e.Pattern.Args=J8 (kk+1+1) e.Pattern.Args:=congrArg (λy=>y.Pattern.Args) hfx;have hF3:e.Left=B4 (kk+1+1+e.Pattern.Args.length):=congrArg (λy=>y.Left) hfx;have hF4:e.Right=B4 (kk+1+1+e.Pattern.Args.length+1):=congrArg (λy=>y.Right) hfx;have hstep:=QG (c:=RD) d hk;have hcc:RD e=4+e.Pattern.Args.length:=rfl;refine q1 Y (B2 C0 Y Y) (q1 Y (lr CJ Y Y f Y) (P2 Y Y (Dx (Cn Y (λo=>?_) (λo=>?_)))))
   ·refine Sr (Pe Y (Ct (Xr (Xq (Xr (Xr (Xq (Xr (Ri Y Y ?_)))))))));show((-1):Int)=_;exfalso;contradiction
   ·refine Sk (Sr (p1 Y (q1 Y (DW Y Y Y Y (by omega)) (Pe Y (Cq (Cq (A0 mixed [] (by kernel_rfl) (tK 7 [0,1] Y (Tk 2 Y Y (AJ (l:=a) (j:=i) D6 Y Y Y (λw' hs=>(rA hs b)) Y (lS d)) (Tk 3 Y Y (B2 CB Y Y) (Tk 4 Y Y (JP H6 Y Y (q:=1) Y) (Tk 5 Y Y (lr BK Y Y f Y) (tR 6 Y Y (ty 7 Y Y (cv L6 Y Y Y Y (λw' hs=>(BH (by omega))) ?_)))))))))))))));refine tS (λ_ hs=>hs) (Tk 8 Y Y (E5 Y Y Y) (tE (Xt (AH [0,1,5,29] Y (R8 Y (λp=>?_) (λp=>?_))))))
    ·refine Sr (Pe Y (Ct (Xr (Xq (Xr (Xr (Xq (Xr (Ri Y Y ?_)))))))));show((-1):Int)=_;exfalso;contradiction
    ·refine Sk (Sr (p1 Y (q1 Y (DW Y Y Y Y (by omega)) (Pe Y (Sr (P2 Y Y (q1 Y (AJ (l:=a) (j:=i) D6 Y Y Y (λw' hs=>(rA hs b)) Y (lS d)) (q1 Y (B2 CB Y Y) (q1 Y (JP C4 Y Y (q:=2) Y) (q1 Y (lr B5 Y Y f Y) (p1 Y (qv A3y Y (λw' hs=>(RF (rA hs g) (by omega) (by omega) ‹_›)) (Pe Y (Cq (Sr ?_)))))))))))))));refine P2 Y Y (Dx (Cd Y (λr=>?_) (λr=>?_)))
     ·refine Sr (Pe Y (Ct (Xr (Xq (Xr (Xr (Xq (Xr (Ri Y Y ?_)))))))));show((-1):Int)=_;exfalso;omega
     ·refine Sk (Cq (Cq (A0 mixed [] (by kernel_rfl) (tK 6 [0,1] Y (Tk 2 Y Y (AJ (l:=a) (j:=i) D6 Y Y Y (λw' hs=>(rA hs b)) Y (lS d)) (Tk 3 Y Y (B2 EO Y Y) (Tk 4 Y Y (lr BK Y Y f Y) (tR 5 Y Y (ty 6 Y Y (cv L6 Y Y Y Y (λw' hs=>(BH (by omega))) ?_))))))))));refine tS (λ_ hs=>hs) (Tk 7 Y Y (E5 Y Y Y) (tE (Xt (AH [0,1,5,49] Y (R8 Y (λs=>?_) (λs=>?_))))))
      ·refine Sr (Pe Y (Ct (Xr (Xq (Xr (Xr (Xq (Xr (Ri Y Y ?_)))))))));show((-1):Int)=_;exfalso;contradiction
      ·refine Sk (Sr (p1 Y (q1 Y (DW Y Y Y Y (by omega)) (Pe Y (Cq (Cq (A0 mixed [] (by kernel_rfl) (tK 6 [0,1] Y (Tk 2 Y Y (AJ (l:=a) (j:=i) D6 Y Y Y (λw' hs=>(rA hs b)) Y (lS d)) (Tk 3 Y Y (B2 D5 Y Y) (Tk 4 Y Y (lr BK Y Y f Y) (tR 5 Y Y (ty 6 Y Y (cv L6 Y Y Y Y (λw' hs=>(BH (by omega))) ?_))))))))))))));refine tS (λ_ hs=>hs) (Tk 7 Y Y (E5 Y Y Y) (tE (Xt (R8 Y (λt=>?_) (λt=>?_)))))
       ·refine Sr (Pe Y (Ct (Xr (Xq (Xr (Xr (Xq (Xr (Ri Y Y ?_)))))))));show((-1):Int)=_;exfalso;contradiction
       ·refine Sk (Cr (p1 Y (q1 Y (DW Y Y Y Y (by omega)) (p1 Y (De (Xb (Xt (Cr (p1 Y (ad (i+1) Y (Pe Y (λac w' hf hs=>⟨_,?_,i+1,(((((kk+1)+1)+e.Pattern.Args.length)+1)+1),?_,?_,Y,hf.wk Y,hs⟩))))))))))))
        ·omega
        ·omega
        ·omega
  ·refine Cx (Xx (Xx (Xe (Xt (Sr (P2 Y Y (Dx (Ct (Ri Y Y ?_)))))))));show(kk:Int)=_;rw[List.take_of_length_le (by omega)] at hk;exact hk
theorem RG(w0:World)(h:List Chunk)(w:World)(b:Value)(a:(List Action))(k:Int)(h0:0<=k)(h1:k+AI UA a<=4611686018427387904)(j:St w0 (ov [b] (a:(List Action))::h) w):Cy 74 [b,(iv k)] w (λe w'=>e= .returned (iv (k+AI UA a))/\St w0 (ov [b] (CP nQ UA k a:(List Action))::h) w'):=by
 have o:=rM (rO (k:=0) j rfl);refine CX 37 Tryz.func74 Y Y Y j (Sr (Pe Y (Dh (ov [b] (a:(List Action))::h) Y (Cq (Sr (Pe Y (Cb (Cl (λm_ ac w'=>∃(i:Nat),∃(kk:Int),(i<=a.length)/\(kk=k+AI UA (a.take i))/\m_=a.length-i/\Fits ac 37 [(0,b),(1,(iv kk)),(5,(nv i))]/\St w0 (ov [b] (A5 nQ UA k a i:(List Action))::h) w') ?_ ?_))))))))
 ·refine A3 0 Y (show(a:(List Action))=A5 nQ UA k a 0 from by rw[E0]) (λac w' hf hs=>⟨_,0,k,?_,?_,Y,hf.wk Y,hs⟩)
  ·omega
  ·simp[AI]
 ·rintro m_ ac w' ⟨i,kk,hi,hk,rfl,hf,hs⟩;refine D.use ?_ hf hs;clear hf hs ac w';have hcl:=FP (f:=nQ) (c:=UA) (k:=k) hi;have htk:=AV a UA i;refine Cq (Sr (P2 Y Y (q1 Y (B7 0 JJ Y Y Y) (Pe Y (Dh (_::h) Y (Cd Y (λl=>?_) (λl=>?_)))))))
  ·refine Sk (Cq (Cb (Sr (P3 Y Y Y ?_))));obtain⟨d,g⟩:=sI (A5 nQ UA k a i) i;refine K8 g λp=>?_
   refine Dp (λw' hs=>PZ (rO (k:=0) hs Y)) ?_;rintro⟨m,rfl,s⟩;refine q1 Y (EL 1 JJ Y Y Y Y Y) ?_;have hstep:=JV hi g hk;have hcc:UA d=2+d.Pattern.Args.length:=rfl;refine q1 Y (B2 Q2 Y Y) (BB (α:=Int) (β:=Go.Sy.Pattern) (c1:=[(iv d.Kind)]) (c2:=[(.string d.Pattern.Rel),m]) (x:=d.Kind) (y:=(d.Pattern)) Y Y (BZ [] 1 Y (li Y (sh (n:=3) (f:=0) 1 Y PC Y Y Y Y Y Y Y (by simp) ?_))));refine Dx (Sr (p1 Y (q1 Y (DW Y Y Y Y (by omega)) (Pe Y (Sr (P3 Y Y Y (qv L6 Y (λw' hs=>(BH (by omega))) (q1 Y (EL 1 JJ Y Y Y Y Y) (q1 Y (B2 GM Y Y) (q1 Y (JP H6 Y Y (q:=1) Y) (li Y (sh (n:=3) (f:=1) 1 Y VI Y Y Y Y Y Y Y (by simp) ?_))))))))))));refine Dx (AH [0,1,5] Y (Sr (p1 Y (q1 Y (DW Y Y Y Y (by omega)) (Pe Y (Cr (P2 Y Y (q1 Y (EL 1 JJ Y Y Y Y Y) (q1 Y (B2 GM Y Y) (q1 Y (JP C4 Y Y (q:=2) Y) (q1 Y (lh (n:=3) 1 Y B5 Y Y Y Y) (p1 Y (BB (α:=ByteArray) (β:=(List ByteArray)) (c1:=[(.string d.Pattern.Rel)]) (c2:=[m]) (x:=d.Pattern.Rel) (y:=(d.Pattern.Args)) Y Y (BZ [] 1 Y (li Y (cm pZ Y Y Y Y (λw' hs=>FR _ _ w' m d.Pattern.Args ((kk+1)+1) (by omega) (by omega) hs) ?_))))))))))))))));refine p1 Y (De (Xb (Xt (Cr (p1 Y (ad (i+1) Y (Pe Y (WY (r:=(⟨kk,⟨(B4 (kk+1)),J8 ((kk+1)+1) d.Pattern.Args⟩⟩:Action)) (OM (A3 0 Y (show((A5 nQ UA k a i).set i (⟨kk,⟨(B4 (kk+1)),J8 ((kk+1)+1) d.Pattern.Args⟩⟩:Action):(List Action))=A5 nQ UA k a (i+1) from by exact MB hi g hk Y) (λac w' hf hs=>⟨_,?_,i+1,(((kk+1)+1)+d.Pattern.Args.length),?_,?_,Y,hf.wk Y,hs⟩)))))))))))
   ·omega
   ·omega
   ·omega
  ·refine Cx (Xx (Xx (Xe (Xt (Sr (P2 Y Y (Dx (Ct (A3 0 Y (show(A5 nQ UA k a i:(List Action))=CP nQ UA k a from by exact E1 (by omega)) (FV Y Y λw' hs=>⟨congrArg (λz=>Ending.returned (Value.int .i64 z)) ?_,hs⟩))))))))));show(kk:Int)=k+AI UA a;rw[List.take_of_length_le (by omega)] at hk;exact hk
theorem B0C{w:World}{f:Value}{a:(List Action)}{k:Int}(b:Gd.rd w [f] a)(h0:0<=k)(h1:k+AI UA a<=4611686018427387904)(v:a=CP nQ UA k a):Cy 121 [f,(iv k)] w (Val w (iv (k+AI UA a))):=by
 have x:=rM b;refine enter 43 Tryz.func121 Y Y Y (Sr (Pe Y (Cq (Sr (Pe Y (Cb (Cl (λm_ ac w'=>∃(i:Nat),∃(kk:Int),(i<=a.length)/\(kk=k+AI UA (a.take i))/\m_=a.length-i/\Fits ac 43 [(0,f),(1,(iv kk)),(5,(nv i))]/\St w ([]) w') ?_ ?_)))))))
 ·refine λac w' hf hs=>⟨_,0,k,?_,?_,Y,hf.wk Y,hs⟩
  ·omega
  ·simp[AI]
 ·rintro m_ ac w' ⟨i,kk,hi,hk,rfl,hf,hs⟩;refine D.use ?_ hf hs;clear hf hs ac w';have htk:=AV a UA i;refine Cq (Sr (P2 Y Y (dl JJ Y (AE b) (Pe Y (Cd Y (λs=>?_) (λs=>?_))))))
  ·refine Sk (Cq (Cb (Cq (Sr (P2 Y Y ?_)))));obtain⟨g,d⟩:=sI a i;obtain⟨z,h,m⟩:=AC (n:=3) rfl b d;obtain⟨u9,rfl,e⟩:=CH m;have t:=rM e;have u:=A9 m;refine q1 Y (AJ (l:=a) (j:=i) JJ Y Y Y (λw' hs=>(rA hs b)) Y (lS d)) ?_;have hfx:=M7 v d;rw[<-hk] at hfx;have hF0:g.Kind=kk:=congrArg (λy=>y.Kind) hfx;have hF1:g.Pattern.Rel=B4 (kk+1):=congrArg (λy=>y.Pattern.Rel) hfx;have hF2:g.Pattern.Args=J8 (kk+1+1) g.Pattern.Args:=congrArg (λy=>y.Pattern.Args) hfx;have hstep:=QG (c:=UA) d hk;have hcc:UA g=2+g.Pattern.Args.length:=rfl;refine q1 Y (B2 Q2 Y Y) (q1 Y (lr CJ Y Y h Y) (P2 Y Y (Dx (Cn Y (λo=>?_) (λo=>?_)))))
   ·refine Sr (Pe Y (Ct (Xr (Xq (Xr (Xr (Xq (Xr (Ri Y Y ?_)))))))));show((-1):Int)=_;exfalso;contradiction
   ·refine Sk (Sr (p1 Y (q1 Y (DW Y Y Y Y (by omega)) (Pe Y (Cq (Cq (A0 mixed [] (by kernel_rfl) (tK 7 [0,1] Y (Tk 2 Y Y (AJ (l:=a) (j:=i) JJ Y Y Y (λw' hs=>(rA hs b)) Y (lS d)) (Tk 3 Y Y (B2 GM Y Y) (Tk 4 Y Y (JP H6 Y Y (q:=1) Y) (Tk 5 Y Y (lr BK Y Y h Y) (tR 6 Y Y (ty 7 Y Y (cv L6 Y Y Y Y (λw' hs=>(BH (by omega))) ?_)))))))))))))));refine tS (λ_ hs=>hs) (Tk 8 Y Y (E5 Y Y Y) (tE (Xt (AH [0,1,5,29] Y (R8 Y (λp=>?_) (λp=>?_))))))
    ·refine Sr (Pe Y (Ct (Xr (Xq (Xr (Xr (Xq (Xr (Ri Y Y ?_)))))))));show((-1):Int)=_;exfalso;contradiction
    ·refine Sk (Sr (p1 Y (q1 Y (DW Y Y Y Y (by omega)) (Pe Y (Sr (P2 Y Y (q1 Y (AJ (l:=a) (j:=i) JJ Y Y Y (λw' hs=>(rA hs b)) Y (lS d)) (q1 Y (B2 GM Y Y) (q1 Y (JP C4 Y Y (q:=2) Y) (q1 Y (lr B5 Y Y h Y) (p1 Y (qv A3y Y (λw' hs=>(RF (rA hs e) (by omega) (by omega) ‹_›)) (Pe Y (Sr (P2 Y Y ?_)))))))))))))));refine Dx (Cd Y (λr=>?_) (λr=>?_))
     ·refine Sr (Pe Y (Ct (Xq (Xr (Xr (Xq (Xr (Ri Y Y ?_))))))));show((-1):Int)=_;exfalso;omega
     ·refine Ck (Xb (Xt (Cr (p1 Y (ad (i+1) Y (Pe Y (λac w' hf hs=>⟨_,?_,i+1,(((kk+1)+1)+g.Pattern.Args.length),?_,?_,Y,hf.wk Y,hs⟩)))))))
      ·omega
      ·omega
      ·omega
  ·refine Cx (Xx (Xx (Xe (Xt (Sr (P2 Y Y (Dx (Ct (Ri Y Y ?_)))))))));show(kk:Int)=_;rw[List.take_of_length_le (by omega)] at hk;exact hk
theorem UD(w0:World)(h:List Chunk)(w:World)(d:Value)(a:(List Rule))(k:Int)(h0:0<=k)(h1:k+AI MC a<=4611686018427387904)(j:St w0 (ov [d] (a:(List Rule))::h) w):Cy 25 [d,(iv k)] w (λe w'=>e= .returned (iv (k+AI MC a))/\St w0 (ov [d] (CP mL MC k a:(List Rule))::h) w'):=by
 have p:=rM (rO (k:=0) j rfl);refine CX 42 Tryz.func25 Y Y Y j (Sr (Pe Y (Dh (ov [d] (a:(List Rule))::h) Y (Cq (Sr (Pe Y (Cb (Cl (λm_ ac w'=>∃(i:Nat),∃(kk:Int),(i<=a.length)/\(kk=k+AI MC (a.take i))/\m_=a.length-i/\Fits ac 42 [(0,d),(1,(iv kk)),(5,(nv i))]/\St w0 (ov [d] (A5 mL MC k a i:(List Rule))::h) w') ?_ ?_))))))))
 ·refine A3 0 Y (show(a:(List Rule))=A5 mL MC k a 0 from by rw[E0]) (λac w' hf hs=>⟨_,0,k,?_,?_,Y,hf.wk Y,hs⟩)
  ·omega
  ·simp[AI]
 ·rintro m_ ac w' ⟨i,kk,hi,hk,rfl,hf,hs⟩;refine D.use ?_ hf hs;clear hf hs ac w';have hcl:=FP (f:=mL) (c:=MC) (k:=k) hi;have htk:=AV a MC i;refine Cq (Sr (P2 Y Y (q1 Y (B7 0 HD Y Y Y) (Pe Y (Dh (_::h) Y (Cd Y (λo=>?_) (λo=>?_)))))))
  ·refine Sk (Cq (Cb (Sr (P3 Y Y Y (qv L6 Y (λw' hs=>(BH (by omega))) ?_)))));obtain⟨b,g⟩:=sI (A5 mL MC k a i) i;refine K8 g λq=>?_
   refine Dp (λw' hs=>TN (rO (k:=0) hs Y)) ?_;rintro⟨l,m,rfl,s,t⟩;refine q1 Y (EL 1 HD Y Y Y Y Y) ?_;have hstep:=JV hi g hk;have hcc:MC b=2+AI RD b.If+AI UA b.Then:=rfl;refine q1 Y (B2 JK Y Y) (BB (α:=ByteArray) (β:=Int ×(List Cond)×(List Action)) (c1:=[(.string b.Name)]) (c2:=[(iv b.Priority),l,m]) (x:=b.Name) (y:=(b.Priority,b.If,b.Then)) Y Y (BZ [] 1 Y (BB (α:=Int) (β:=(List Cond)×(List Action)) (c1:=[(iv b.Priority)]) (c2:=[l,m]) (x:=b.Priority) (y:=(b.If,b.Then)) Y Y (BZ [] 1 Y (BB (α:=(List Cond)) (β:=(List Action)) (c1:=[l]) (c2:=[m]) (x:=b.If) (y:=(b.Then)) Y Y (BZ [1] 0 Y (li Y (sh (n:=4) (f:=0) 2 Y VI Y Y Y Y Y Y Y (by simp) ?_))))))));refine Dx (Sr (p1 Y (q1 Y (DW Y Y Y Y (by omega)) (Pe Y (Sr (P3 Y Y Y (q1 Y (EL 2 HD Y Y Y Y Y) (q1 Y (B2 L4 Y Y) (li Y (sh (n:=4) (f:=1) 2 Y PC Y Y Y Y Y Y Y (by simp) ?_))))))))));refine Dx (AH [0,1,5] Y (Sr (p1 Y (q1 Y (DW Y Y Y Y (by omega)) (Pe Y (Sr (P2 Y Y (q1 Y (EL 2 HD Y Y Y Y Y) (q1 Y (B2 CO Y Y) (q1 Y (lh (n:=4) 2 Y GN Y Y Y Y) (p1 Y (BZ [1] 0 Y (li Y (cm A6o Y Y Y Y (λw' hs=>UC _ _ w' l b.If ((kk+1)+1) (by omega) (by omega) hs) ?_))))))))))))));refine Pe Y (Cr (P2 Y Y (q1 Y (EL 2 HD Y Y Y Y Y) (q1 Y (B2 HB Y Y) (q1 Y (lh (n:=4) 2 Y PD Y Y Y Y) (p1 Y (BZ [1] 0 Y (li Y (cm A6p Y Y Y Y (λw' hs=>RG _ _ w' m b.Then (((kk+1)+1)+AI RD b.If) (by omega) (by omega) hs) ?_)))))))));refine p1 Y (De (Xb (Xt (AH [0,1,5] Y (Cr (p1 Y (ad (i+1) Y (Pe Y (BZ [0,1] 0 Y (iB (r:=(⟨(B4 kk),(kk+1),CP nP RD ((kk+1)+1) b.If,CP nQ UA (((kk+1)+1)+AI RD b.If) b.Then⟩:Rule)) (OM (A3 0 Y (show((A5 mL MC k a i).set i (⟨(B4 kk),(kk+1),CP nP RD ((kk+1)+1) b.If,CP nQ UA (((kk+1)+1)+AI RD b.If) b.Then⟩:Rule):(List Rule))=A5 mL MC k a (i+1) from by exact MB hi g hk Y) (λac w' hf hs=>⟨_,?_,i+1,((((kk+1)+1)+AI RD b.If)+AI UA b.Then),?_,?_,Y,hf.wk Y,hs⟩)))))))))))))
   ·omega
   ·omega
   ·omega
  ·refine Cx (Xx (Xx (Xe (Xt (Sr (P2 Y Y (Dx (Ct (A3 0 Y (show(A5 mL MC k a i:(List Rule))=CP mL MC k a from by exact E1 (by omega)) (FV Y Y λw' hs=>⟨congrArg (λz=>Ending.returned (Value.int .i64 z)) ?_,hs⟩))))))))));show(kk:Int)=k+AI MC a;rw[List.take_of_length_le (by omega)] at hk;exact hk
theorem B0b{w:World}{m:Value}{a:(List Rule)}{k:Int}(b:Gd.rd w [m] a)(h0:0<=k)(h1:k+AI MC a<=4611686018427387904)(x:a=CP mL MC k a):Cy 55 [m,(iv k)] w (Val w (iv (k+AI MC a))):=by
 have z:=rM b;refine enter 50 Tryz.func55 Y Y Y (Sr (Pe Y (Cq (Sr (Pe Y (Cb (Cl (λm_ ac w'=>∃(i:Nat),∃(kk:Int),(i<=a.length)/\(kk=k+AI MC (a.take i))/\m_=a.length-i/\Fits ac 50 [(0,m),(1,(iv kk)),(5,(nv i))]/\St w ([]) w') ?_ ?_)))))))
 ·refine λac w' hf hs=>⟨_,0,k,?_,?_,Y,hf.wk Y,hs⟩
  ·omega
  ·simp[AI]
 ·rintro m_ ac w' ⟨i,kk,hi,hk,rfl,hf,hs⟩;refine D.use ?_ hf hs;clear hf hs ac w';have htk:=AV a MC i;refine Cq (Sr (P2 Y Y (dl HD Y (AE b) (Pe Y (Cd Y (λs=>?_) (λs=>?_))))))
  ·refine Sk (Cq (Cb (Cq (Cq (A0 mixed [] (by kernel_rfl) (tK 6 [0,1] Y ?_))))));obtain⟨e,d⟩:=sI a i;obtain⟨a0,f,t⟩:=AC (n:=4) rfl b d;obtain⟨u9,a1,rfl,g,h⟩:=BC t;have u:=rM g;have v:=rM h;refine Tk 2 Y Y (AJ (l:=a) (j:=i) HD Y Y Y (λw' hs=>(rA hs b)) Y (lS d)) ?_;have hfx:=M7 x d;rw[<-hk] at hfx;have hF0:e.Name=B4 kk:=congrArg (λy=>y.Name) hfx;have hF1:e.Priority=kk+1:=congrArg (λy=>y.Priority) hfx;have hF2:e.If=A7U (kk+1+1) e.If:=congrArg (λy=>y.If) hfx;have hF3:e.Then=A7V (kk+1+1+AI RD e.If) e.Then:=congrArg (λy=>y.Then) hfx;have hstep:=QG (c:=MC) d hk;have hcc:MC e=2+AI RD e.If+AI UA e.Then:=rfl;refine Tk 3 Y Y (B2 JK Y Y) (Tk 4 Y Y (lr BK Y Y f Y) (tR 5 Y Y (ty 6 Y Y (cv L6 Y Y Y Y (λw' hs=>(BH (by omega))) ?_))));refine tS (λ_ hs=>hs) (Tk 7 Y Y (E5 Y Y Y) (tE (Xt (R8 Y (λo=>?_) (λo=>?_)))))
   ·refine Sr (Pe Y (Ct (Xr (Xq (Xr (Xr (Xq (Xr (Ri Y Y ?_)))))))));show((-1):Int)=_;exfalso;contradiction
   ·refine Sk (Sr (p1 Y (q1 Y (DW Y Y Y Y (by omega)) (Pe Y (Cq (Sr (P2 Y Y (q1 Y (AJ (l:=a) (j:=i) HD Y Y Y (λw' hs=>(rA hs b)) Y (lS d)) (q1 Y (B2 L4 Y Y) (q1 Y (lr CJ Y Y f Y) (P2 Y Y (Dx (AH [0,1,5,28] Y (Cn Y (λp=>?_) (λp=>?_)))))))))))))))
    ·refine Sr (Pe Y (Ct (Xr (Xq (Xr (Xr (Xq (Xr (Ri Y Y ?_)))))))));show((-1):Int)=_;exfalso;contradiction
    ·refine Sk (Sr (p1 Y (q1 Y (DW Y Y Y Y (by omega)) (Pe Y (Sr (P2 Y Y (q1 Y (AJ (l:=a) (j:=i) HD Y Y Y (λw' hs=>(rA hs b)) Y (lS d)) (q1 Y (B2 CO Y Y) (q1 Y (lr GN Y Y f Y) (p1 Y (qv B3V Y (λw' hs=>(B0a (rA hs g) (by omega) (by omega) ‹_›)) (Pe Y (Cq (Sr (P2 Y Y ?_)))))))))))))));refine Dx (Cd Y (λq=>?_) (λq=>?_))
     ·refine Sr (Pe Y (Ct (Xr (Xq (Xr (Xr (Xq (Xr (Ri Y Y ?_)))))))));show((-1):Int)=_;exfalso;omega
     ·refine Sk (Sr (P2 Y Y (q1 Y (AJ (l:=a) (j:=i) HD Y Y Y (λw' hs=>(rA hs b)) Y (lS d)) (q1 Y (B2 HB Y Y) (q1 Y (lr PD Y Y f Y) (p1 Y (qv B3W Y (λw' hs=>(B0C (rA hs h) (by omega) (by omega) ‹_›)) (Pe Y (AH [0,1,5] Y (Sr (P2 Y Y (Dx (Cd Y (λr=>?_) (λr=>?_))))))))))))))
      ·refine Sr (Pe Y (Ct (Xq (Xr (Xr (Xq (Xr (Ri Y Y ?_))))))));show((-1):Int)=_;exfalso;omega
      ·refine Ck (Xb (Xt (Cr (p1 Y (ad (i+1) Y (Pe Y (λac w' hf hs=>⟨_,?_,i+1,((((kk+1)+1)+AI RD e.If)+AI UA e.Then),?_,?_,Y,hf.wk Y,hs⟩)))))))
       ·omega
       ·omega
       ·omega
  ·refine Cx (Xx (Xx (Xe (Xt (Sr (P2 Y Y (Dx (Ct (Ri Y Y ?_)))))))));show(kk:Int)=_;rw[List.take_of_length_le (by omega)] at hk;exact hk
theorem SS(w0:World)(h:List Chunk)(w:World)(d:Value)(a:(List Stamp))(k:Int)(h0:0<=k)(h1:k+AI N9 a<=4611686018427387904)(j:St w0 (ov [d] (a:(List Stamp))::h) w):Cy 53 [d,(iv k)] w (λe w'=>e= .returned (iv (k+AI N9 a))/\St w0 (ov [d] (CP mM N9 k a:(List Stamp))::h) w'):=by
 have o:=rM (rO (k:=0) j rfl);refine CX 37 Tryz.func53 Y Y Y j (Sr (Pe Y (Dh (ov [d] (a:(List Stamp))::h) Y (Cq (Sr (Pe Y (Cb (Cl (λm_ ac w'=>∃(i:Nat),∃(kk:Int),(i<=a.length)/\(kk=k+AI N9 (a.take i))/\m_=a.length-i/\Fits ac 37 [(0,d),(1,(iv kk)),(5,(nv i))]/\St w0 (ov [d] (A5 mM N9 k a i:(List Stamp))::h) w') ?_ ?_))))))))
 ·refine A3 0 Y (show(a:(List Stamp))=A5 mM N9 k a 0 from by rw[E0]) (λac w' hf hs=>⟨_,0,k,?_,?_,Y,hf.wk Y,hs⟩)
  ·omega
  ·simp[AI]
 ·rintro m_ ac w' ⟨i,kk,hi,hk,rfl,hf,hs⟩;refine D.use ?_ hf hs;clear hf hs ac w';have hcl:=FP (f:=mM) (c:=N9) (k:=k) hi;have htk:=AV a N9 i;refine Cq (Sr (P2 Y Y (q1 Y (B7 0 HJ Y Y Y) (Pe Y (Dh (_::h) Y (Cd Y (λl=>?_) (λl=>?_)))))))
  ·refine Sk (Cq (Cb (Sr (P3 Y Y Y (qv L6 Y (λw' hs=>(BH (by omega))) ?_)))));obtain⟨b,g⟩:=sI (A5 mM N9 k a i) i;refine K8 g λp=>?_
   refine Dp (λw' hs=>SB (rO (k:=0) hs Y)) ?_;rintro⟨m,rfl,s⟩;refine q1 Y (EL 1 HJ Y Y Y Y Y) ?_;have hstep:=JV hi g hk;have hcc:N9 b=2+b.Fact.Args.length:=rfl;refine q1 Y (B2 IU Y Y) (q1 Y (JP EH Y Y (q:=0) Y) (BB (α:=Go.Sy.Fact) (β:=Int) (c1:=[(.string b.Fact.Rel),m]) (c2:=[(iv b.Time)]) (x:=b.Fact) (y:=(b.Time)) Y Y (BZ [1] 0 Y (BZ [] 1 Y (li Y (sh (n:=3) (f:=0) 1 Y VI Y Y Y Y Y Y Y (by simp) ?_))))));refine Dx (Sr (p1 Y (q1 Y (DW Y Y Y Y (by omega)) (Pe Y (Sr (P2 Y Y (q1 Y (EL 1 HJ Y Y Y Y Y) (q1 Y (B2 IU Y Y) (q1 Y (JP BU Y Y (q:=1) Y) (q1 Y (lh (n:=3) 1 Y B5 Y Y Y Y) (p1 Y (BB (α:=ByteArray) (β:=(List ByteArray)) (c1:=[(.string b.Fact.Rel)]) (c2:=[m]) (x:=b.Fact.Rel) (y:=(b.Fact.Args)) Y Y (BZ [] 1 Y (li Y (cm pZ Y Y Y Y (λw' hs=>FR _ _ w' m b.Fact.Args (kk+1) (by omega) (by omega) hs) ?_)))))))))))))));refine Pe Y (AH [0,1,5] Y (Sr (P3 Y Y Y (q1 Y (EL 1 HJ Y Y Y Y Y) (q1 Y (B2 F6 Y Y) (li Y (sh (n:=3) (f:=2) 1 Y PC Y Y Y Y Y Y Y (by simp) ?_)))))));refine Dx (Cr (p1 Y (q1 Y (DW Y Y Y Y (by omega)) (p1 Y (De (Xb (Xt (Cr (p1 Y (ad (i+1) Y (Pe Y (aT (r:=(⟨⟨(B4 kk),J8 (kk+1) b.Fact.Args⟩,((kk+1)+b.Fact.Args.length)⟩:Stamp)) (OM (A3 0 Y (show((A5 mM N9 k a i).set i (⟨⟨(B4 kk),J8 (kk+1) b.Fact.Args⟩,((kk+1)+b.Fact.Args.length)⟩:Stamp):(List Stamp))=A5 mM N9 k a (i+1) from by exact MB hi g hk Y) (λac w' hf hs=>⟨_,?_,i+1,(((kk+1)+b.Fact.Args.length)+1),?_,?_,Y,hf.wk Y,hs⟩)))))))))))))))
   ·omega
   ·omega
   ·omega
  ·refine Cx (Xx (Xx (Xe (Xt (Sr (P2 Y Y (Dx (Ct (A3 0 Y (show(A5 mM N9 k a i:(List Stamp))=CP mM N9 k a from by exact E1 (by omega)) (FV Y Y λw' hs=>⟨congrArg (λz=>Ending.returned (Value.int .i64 z)) ?_,hs⟩))))))))));show(kk:Int)=k+AI N9 a;rw[List.take_of_length_le (by omega)] at hk;exact hk
theorem B0Q{w:World}{g:Value}{a:(List Stamp)}{k:Int}(b:Gd.rd w [g] a)(h0:0<=k)(h1:k+AI N9 a<=4611686018427387904)(v:a=CP mM N9 k a):Cy 56 [g,(iv k)] w (Val w (iv (k+AI N9 a))):=by
 have x:=rM b;refine enter 43 Tryz.func56 Y Y Y (Sr (Pe Y (Cq (Sr (Pe Y (Cb (Cl (λm_ ac w'=>∃(i:Nat),∃(kk:Int),(i<=a.length)/\(kk=k+AI N9 (a.take i))/\m_=a.length-i/\Fits ac 43 [(0,g),(1,(iv kk)),(5,(nv i))]/\St w ([]) w') ?_ ?_)))))))
 ·refine λac w' hf hs=>⟨_,0,k,?_,?_,Y,hf.wk Y,hs⟩
  ·omega
  ·simp[AI]
 ·rintro m_ ac w' ⟨i,kk,hi,hk,rfl,hf,hs⟩;refine D.use ?_ hf hs;clear hf hs ac w';have htk:=AV a N9 i;refine Cq (Sr (P2 Y Y (dl HJ Y (AE b) (Pe Y (Cd Y (λs=>?_) (λs=>?_))))))
  ·refine Sk (Cq (Cb (Cq (Cq (A0 mixed [] (by kernel_rfl) (tK 7 [0,1] Y ?_))))));obtain⟨e,d⟩:=sI a i;obtain⟨z,h,m⟩:=AC (n:=3) rfl b d;obtain⟨u9,rfl,f⟩:=B9 m;have t:=rM f;have u:=BE m;refine Tk 2 Y Y (AJ (l:=a) (j:=i) HJ Y Y Y (λw' hs=>(rA hs b)) Y (lS d)) ?_;have hfx:=M7 v d;rw[<-hk] at hfx;have hF0:e.Fact.Rel=B4 kk:=congrArg (λy=>y.Fact.Rel) hfx;have hF1:e.Fact.Args=J8 (kk+1) e.Fact.Args:=congrArg (λy=>y.Fact.Args) hfx;have hF2:e.Time=kk+1+e.Fact.Args.length:=congrArg (λy=>y.Time) hfx;have hstep:=QG (c:=N9) d hk;have hcc:N9 e=2+e.Fact.Args.length:=rfl;refine Tk 3 Y Y (B2 IU Y Y) (Tk 4 Y Y (JP EH Y Y (q:=0) Y) (Tk 5 Y Y (lr BK Y Y h Y) (tR 6 Y Y (ty 7 Y Y (cv L6 Y Y Y Y (λw' hs=>(BH (by omega))) ?_)))));refine tS (λ_ hs=>hs) (Tk 8 Y Y (E5 Y Y Y) (tE (Xt (R8 Y (λo=>?_) (λo=>?_)))))
   ·refine Sr (Pe Y (Ct (Xr (Xq (Xr (Xr (Xq (Xr (Ri Y Y ?_)))))))));show((-1):Int)=_;exfalso;contradiction
   ·refine Sk (Sr (p1 Y (q1 Y (DW Y Y Y Y (by omega)) (Pe Y (AH [0,1,5] Y (Sr (P2 Y Y (q1 Y (AJ (l:=a) (j:=i) HJ Y Y Y (λw' hs=>(rA hs b)) Y (lS d)) (q1 Y (B2 IU Y Y) (q1 Y (JP BU Y Y (q:=1) Y) (q1 Y (lr B5 Y Y h Y) (p1 Y (qv A3y Y (λw' hs=>(RF (rA hs f) (by omega) (by omega) ‹_›)) (Pe Y (Cq (Cq ?_))))))))))))))));refine Cr (P2 Y Y (Dx (Cd Y (λp=>?_) (λp=>?_))))
    ·refine Sr (Pe Y (Ct (Xr (Xq (Xr (Xr (Xq (Xr (Ri Y Y ?_)))))))));show((-1):Int)=_;exfalso;omega
    ·refine Sk (Cq (Sr (P2 Y Y (q1 Y (AJ (l:=a) (j:=i) HJ Y Y Y (λw' hs=>(rA hs b)) Y (lS d)) (q1 Y (B2 F6 Y Y) (q1 Y (lr CJ Y Y h Y) (P2 Y Y (Dx (AH [0,1,5,39] Y (Cn Y (λr=>?_) (λr=>?_)))))))))))
     ·refine Sr (Pe Y (Ct (Xr (Xq (Xr (Xr (Xq (Xr (Ri Y Y ?_)))))))));show((-1):Int)=_;exfalso;contradiction
     ·refine Sk (Cr (p1 Y (q1 Y (DW Y Y Y Y (by omega)) (p1 Y (De (Xb (Xt (Cr (p1 Y (ad (i+1) Y (Pe Y (λac w' hf hs=>⟨_,?_,i+1,(((kk+1)+e.Fact.Args.length)+1),?_,?_,Y,hf.wk Y,hs⟩))))))))))))
      ·omega
      ·omega
      ·omega
  ·refine Cx (Xx (Xx (Xe (Xt (Sr (P2 Y Y (Dx (Ct (Ri Y Y ?_)))))))));show(kk:Int)=_;rw[List.take_of_length_le (by omega)] at hk;exact hk
theorem RH(w0:World)(h:List Chunk)(w:World)(b:Value)(a:(List Firing))(k:Int)(h0:0<=k)(h1:k+AI QH a<=4611686018427387904)(j:St w0 (ov [b] (a:(List Firing))::h) w):Cy 54 [b,(iv k)] w (λe w'=>e= .returned (iv (k+AI QH a))/\St w0 (ov [b] (CP mN QH k a:(List Firing))::h) w'):=by
 have o:=rM (rO (k:=0) j rfl);refine CX 28 Tryz.func54 Y Y Y j (Sr (Pe Y (Dh (ov [b] (a:(List Firing))::h) Y (Cq (Sr (Pe Y (Cb (Cl (λm_ ac w'=>∃(i:Nat),∃(kk:Int),(i<=a.length)/\(kk=k+AI QH (a.take i))/\m_=a.length-i/\Fits ac 28 [(0,b),(1,(iv kk)),(5,(nv i))]/\St w0 (ov [b] (A5 mN QH k a i:(List Firing))::h) w') ?_ ?_))))))))
 ·refine A3 0 Y (show(a:(List Firing))=A5 mN QH k a 0 from by rw[E0]) (λac w' hf hs=>⟨_,0,k,?_,?_,Y,hf.wk Y,hs⟩)
  ·omega
  ·simp[AI]
 ·rintro m_ ac w' ⟨i,kk,hi,hk,rfl,hf,hs⟩;refine D.use ?_ hf hs;clear hf hs ac w';have hcl:=FP (f:=mN) (c:=QH) (k:=k) hi;have htk:=AV a QH i;refine Cq (Sr (P2 Y Y (q1 Y (B7 0 JL Y Y Y) (Pe Y (Dh (_::h) Y (Cd Y (λl=>?_) (λl=>?_)))))))
  ·refine Sk (Cq (Cb (Sr (P3 Y Y Y (qv L6 Y (λw' hs=>(BH (by omega))) ?_)))));obtain⟨d,g⟩:=sI (A5 mN QH k a i) i;refine K8 g λp=>?_
   refine Dp (λw' hs=>P0 (rO (k:=0) hs Y)) ?_;rintro⟨m,rfl,q⟩;refine q1 Y (EL 1 JL Y Y Y Y Y) ?_;have hstep:=JV hi g hk;have hcc:QH d=1+d.Times.length:=rfl;refine q1 Y (B2 IK Y Y) (BB (α:=ByteArray) (β:=(List Int)) (c1:=[(.string d.Rule)]) (c2:=[m]) (x:=d.Rule) (y:=(d.Times)) Y Y (BZ [] 1 Y (li Y (sh (n:=2) (f:=0) 1 Y VI Y Y Y Y Y Y Y (by simp) ?_))));refine Dx (Sr (p1 Y (q1 Y (DW Y Y Y Y (by omega)) (Pe Y (Cr (P2 Y Y (q1 Y (EL 1 JL Y Y Y Y Y) (q1 Y (B2 HC Y Y) (q1 Y (lh (n:=2) 1 Y H7 Y Y Y Y) (p1 Y (li Y (cm A3l Y Y Y Y (λw' hs=>OT _ _ w' m d.Times (kk+1) (by omega) (by omega) hs) ?_))))))))))));refine p1 Y (De (Xb (Xt (AH [0,1,5] Y (Cr (p1 Y (ad (i+1) Y (Pe Y (WZ (r:=(⟨(B4 kk),YU (kk+1) d.Times⟩:Firing)) (OM (A3 0 Y (show((A5 mN QH k a i).set i (⟨(B4 kk),YU (kk+1) d.Times⟩:Firing):(List Firing))=A5 mN QH k a (i+1) from by exact MB hi g hk Y) (λac w' hf hs=>⟨_,?_,i+1,((kk+1)+d.Times.length),?_,?_,Y,hf.wk Y,hs⟩))))))))))))
   ·omega
   ·omega
   ·omega
  ·refine Cx (Xx (Xx (Xe (Xt (Sr (P2 Y Y (Dx (Ct (A3 0 Y (show(A5 mN QH k a i:(List Firing))=CP mN QH k a from by exact E1 (by omega)) (FV Y Y λw' hs=>⟨congrArg (λz=>Ending.returned (Value.int .i64 z)) ?_,hs⟩))))))))));show(kk:Int)=k+AI QH a;rw[List.take_of_length_le (by omega)] at hk;exact hk
theorem B0D{w:World}{f:Value}{a:(List Firing)}{k:Int}(b:Gd.rd w [f] a)(h0:0<=k)(h1:k+AI QH a<=4611686018427387904)(s:a=CP mN QH k a):Cy 57 [f,(iv k)] w (Val w (iv (k+AI QH a))):=by
 have t:=rM b;refine enter 32 Tryz.func57 Y Y Y (Sr (Pe Y (Cq (Sr (Pe Y (Cb (Cl (λm_ ac w'=>∃(i:Nat),∃(kk:Int),(i<=a.length)/\(kk=k+AI QH (a.take i))/\m_=a.length-i/\Fits ac 32 [(0,f),(1,(iv kk)),(5,(nv i))]/\St w ([]) w') ?_ ?_)))))))
 ·refine λac w' hf hs=>⟨_,0,k,?_,?_,Y,hf.wk Y,hs⟩
  ·omega
  ·simp[AI]
 ·rintro m_ ac w' ⟨i,kk,hi,hk,rfl,hf,hs⟩;refine D.use ?_ hf hs;clear hf hs ac w';have htk:=AV a QH i;refine Cq (Sr (P2 Y Y (dl JL Y (AE b) (Pe Y (Cd Y (λp=>?_) (λp=>?_))))))
  ·refine Sk (Cq (Cb (Cq (Cq (A0 mixed [] (by kernel_rfl) (tK 6 [0,1] Y ?_))))));obtain⟨g,d⟩:=sI a i;obtain⟨u,h,q⟩:=AC (n:=2) rfl b d;obtain⟨v,rfl,e⟩:=BQ q;have r:=rM e;refine Tk 2 Y Y (AJ (l:=a) (j:=i) JL Y Y Y (λw' hs=>(rA hs b)) Y (lS d)) ?_;have hfx:=M7 s d;rw[<-hk] at hfx;have hF0:g.Rule=B4 kk:=congrArg (λy=>y.Rule) hfx;have hF1:g.Times=YU (kk+1) g.Times:=congrArg (λy=>y.Times) hfx;have hstep:=QG (c:=QH) d hk;have hcc:QH g=1+g.Times.length:=rfl;refine Tk 3 Y Y (B2 IK Y Y) (Tk 4 Y Y (lr BK Y Y h Y) (tR 5 Y Y (ty 6 Y Y (cv L6 Y Y Y Y (λw' hs=>(BH (by omega))) ?_))));refine tS (λ_ hs=>hs) (Tk 7 Y Y (E5 Y Y Y) (tE (Xt (R8 Y (λm=>?_) (λm=>?_)))))
   ·refine Sr (Pe Y (Ct (Xr (Xq (Xr (Xr (Xq (Xr (Ri Y Y ?_)))))))));show((-1):Int)=_;exfalso;contradiction
   ·refine Sk (Sr (p1 Y (q1 Y (DW Y Y Y Y (by omega)) (Pe Y (Sr (P2 Y Y (q1 Y (AJ (l:=a) (j:=i) JL Y Y Y (λw' hs=>(rA hs b)) Y (lS d)) (q1 Y (B2 HC Y Y) (q1 Y (lr H7 Y Y h Y) (p1 Y (qv A7K Y (λw' hs=>(WA (rA hs e) (by omega) (by omega) ‹_›)) (Pe Y (AH [0,1,5] Y (Sr (P2 Y Y ?_)))))))))))))));refine Dx (Cd Y (λo=>?_) (λo=>?_))
    ·refine Sr (Pe Y (Ct (Xq (Xr (Xr (Xq (Xr (Ri Y Y ?_))))))));show((-1):Int)=_;exfalso;omega
    ·refine Ck (Xb (Xt (Cr (p1 Y (ad (i+1) Y (Pe Y (λac w' hf hs=>⟨_,?_,i+1,((kk+1)+g.Times.length),?_,?_,Y,hf.wk Y,hs⟩)))))))
     ·omega
     ·omega
     ·omega
  ·refine Cx (Xx (Xx (Xe (Xt (Sr (P2 Y Y (Dx (Ct (Ri Y Y ?_)))))))));show(kk:Int)=_;rw[List.take_of_length_le (by omega)] at hk;exact hk
theorem SU(w0:World)(h:List Chunk)(w:World)(d:Value)(a:(List Event))(k:Int)(h0:0<=k)(h1:k+AI TA a<=4611686018427387904)(j:St w0 (ov [d] (a:(List Event))::h) w):Cy 26 [d,(iv k)] w (λe w'=>e= .returned (iv (k+AI TA a))/\St w0 (ov [d] (CP nR TA k a:(List Event))::h) w'):=by
 have o:=rM (rO (k:=0) j rfl);refine CX 45 Tryz.func26 Y Y Y j (Sr (Pe Y (Dh (ov [d] (a:(List Event))::h) Y (Cq (Sr (Pe Y (Cb (Cl (λm_ ac w'=>∃(i:Nat),∃(kk:Int),(i<=a.length)/\(kk=k+AI TA (a.take i))/\m_=a.length-i/\Fits ac 45 [(0,d),(1,(iv kk)),(5,(nv i))]/\St w0 (ov [d] (A5 nR TA k a i:(List Event))::h) w') ?_ ?_))))))))
 ·refine A3 0 Y (show(a:(List Event))=A5 nR TA k a 0 from by rw[E0]) (λac w' hf hs=>⟨_,0,k,?_,?_,Y,hf.wk Y,hs⟩)
  ·omega
  ·simp[AI]
 ·rintro m_ ac w' ⟨i,kk,hi,hk,rfl,hf,hs⟩;refine D.use ?_ hf hs;clear hf hs ac w';have hcl:=FP (f:=nR) (c:=TA) (k:=k) hi;have htk:=AV a TA i;refine Cq (Sr (P2 Y Y (q1 Y (B7 0 MU Y Y Y) (Pe Y (Dh (_::h) Y (Cd Y (λm=>?_) (λm=>?_)))))))
  ·refine Sk (Cq (Cb (Sr (P3 Y Y Y ?_))));obtain⟨b,g⟩:=sI (A5 nR TA k a i) i;refine K8 g λp=>?_
   refine Dp (λw' hs=>SA (rO (k:=0) hs Y)) ?_;rintro⟨l,rfl,s⟩;refine q1 Y (EL 1 MU Y Y Y Y Y) ?_;have hstep:=JV hi g hk;have hcc:TA b=3+b.Fact.Args.length:=rfl;refine q1 Y (B2 M2 Y Y) (BB (α:=Int) (β:=ByteArray × Go.Sy.Fact) (c1:=[(iv b.Kind)]) (c2:=[(.string b.Rule),(.string b.Fact.Rel),l]) (x:=b.Kind) (y:=(b.Rule,b.Fact)) Y Y (BZ [] 1 Y (BB (α:=ByteArray) (β:=Go.Sy.Fact) (c1:=[(.string b.Rule)]) (c2:=[(.string b.Fact.Rel),l]) (x:=b.Rule) (y:=(b.Fact)) Y Y (BZ [] 1 Y (li Y (sh (n:=4) (f:=0) 1 Y PC Y Y Y Y Y Y Y (by simp) ?_))))));refine Dx (Sr (p1 Y (q1 Y (DW Y Y Y Y (by omega)) (Pe Y (Sr (P3 Y Y Y (qv L6 Y (λw' hs=>(BH (by omega))) (q1 Y (EL 1 MU Y Y Y Y Y) (q1 Y (B2 DT Y Y) (li Y (sh (n:=4) (f:=1) 1 Y VI Y Y Y Y Y Y Y (by simp) ?_)))))))))));refine Dx (AH [0,1,5] Y (Sr (p1 Y (q1 Y (DW Y Y Y Y (by omega)) (Pe Y (Sr (P3 Y Y Y (qv L6 Y (λw' hs=>(BH (by omega))) (q1 Y (EL 1 MU Y Y Y Y Y) (q1 Y (B2 EI Y Y) (q1 Y (JP EH Y Y (q:=2) Y) (li Y (sh (n:=4) (f:=2) 1 Y VI Y Y Y Y Y Y Y (by simp) ?_)))))))))))));refine Dx (Sr (p1 Y (q1 Y (DW Y Y Y Y (by omega)) (Pe Y (Cr (P2 Y Y (q1 Y (EL 1 MU Y Y Y Y Y) (q1 Y (B2 EI Y Y) (q1 Y (JP BU Y Y (q:=3) Y) (q1 Y (lh (n:=4) 1 Y B5 Y Y Y Y) (p1 Y (BB (α:=ByteArray) (β:=(List ByteArray)) (c1:=[(.string b.Fact.Rel)]) (c2:=[l]) (x:=b.Fact.Rel) (y:=(b.Fact.Args)) Y Y (BZ [] 1 Y (li Y (cm pZ Y Y Y Y (λw' hs=>FR _ _ w' l b.Fact.Args (((kk+1)+1)+1) (by omega) (by omega) hs) ?_)))))))))))))));refine p1 Y (De (Xb (Xt (AH [0,1,5] Y (Cr (p1 Y (ad (i+1) Y (Pe Y (aS (r:=(⟨kk,(B4 (kk+1)),⟨(B4 ((kk+1)+1)),J8 (((kk+1)+1)+1) b.Fact.Args⟩⟩:Event)) (OM (A3 0 Y (show((A5 nR TA k a i).set i (⟨kk,(B4 (kk+1)),⟨(B4 ((kk+1)+1)),J8 (((kk+1)+1)+1) b.Fact.Args⟩⟩:Event):(List Event))=A5 nR TA k a (i+1) from by exact MB hi g hk Y) (λac w' hf hs=>⟨_,?_,i+1,((((kk+1)+1)+1)+b.Fact.Args.length),?_,?_,Y,hf.wk Y,hs⟩))))))))))))
   ·omega
   ·omega
   ·omega
  ·refine Cx (Xx (Xx (Xe (Xt (Sr (P2 Y Y (Dx (Ct (A3 0 Y (show(A5 nR TA k a i:(List Event))=CP nR TA k a from by exact E1 (by omega)) (FV Y Y λw' hs=>⟨congrArg (λz=>Ending.returned (Value.int .i64 z)) ?_,hs⟩))))))))));show(kk:Int)=k+AI TA a;rw[List.take_of_length_le (by omega)] at hk;exact hk
theorem B0R{w:World}{h:Value}{a:(List Event)}{k:Int}(b:Gd.rd w [h] a)(h0:0<=k)(h1:k+AI TA a<=4611686018427387904)(x:a=CP nR TA k a):Cy 58 [h,(iv k)] w (Val w (iv (k+AI TA a))):=by
 have z:=rM b;refine enter 53 Tryz.func58 Y Y Y (Sr (Pe Y (Cq (Sr (Pe Y (Cb (Cl (λm_ ac w'=>∃(i:Nat),∃(kk:Int),(i<=a.length)/\(kk=k+AI TA (a.take i))/\m_=a.length-i/\Fits ac 53 [(0,h),(1,(iv kk)),(5,(nv i))]/\St w ([]) w') ?_ ?_)))))))
 ·refine λac w' hf hs=>⟨_,0,k,?_,?_,Y,hf.wk Y,hs⟩
  ·omega
  ·simp[AI]
 ·rintro m_ ac w' ⟨i,kk,hi,hk,rfl,hf,hs⟩;refine D.use ?_ hf hs;clear hf hs ac w';have htk:=AV a TA i;refine Cq (Sr (P2 Y Y (dl MU Y (AE b) (Pe Y (Cd Y (λt=>?_) (λt=>?_))))))
  ·refine Sk (Cq (Cb (Cq (Sr (P2 Y Y ?_)))));obtain⟨f,d⟩:=sI a i;obtain⟨a0,e,m⟩:=AC (n:=4) rfl b d;obtain⟨u9,rfl,g⟩:=D2 m;have u:=rM g;have v:=CC m;refine q1 Y (AJ (l:=a) (j:=i) MU Y Y Y (λw' hs=>(rA hs b)) Y (lS d)) ?_;have hfx:=M7 x d;rw[<-hk] at hfx;have hF0:f.Kind=kk:=congrArg (λy=>y.Kind) hfx;have hF1:f.Rule=B4 (kk+1):=congrArg (λy=>y.Rule) hfx;have hF2:f.Fact.Rel=B4 (kk+1+1):=congrArg (λy=>y.Fact.Rel) hfx;have hF3:f.Fact.Args=J8 (kk+1+1+1) f.Fact.Args:=congrArg (λy=>y.Fact.Args) hfx;have hstep:=QG (c:=TA) d hk;have hcc:TA f=3+f.Fact.Args.length:=rfl;refine q1 Y (B2 M2 Y Y) (q1 Y (lr CJ Y Y e Y) (P2 Y Y (Dx (Cn Y (λo=>?_) (λo=>?_)))))
   ·refine Sr (Pe Y (Ct (Xr (Xq (Xr (Xr (Xq (Xr (Ri Y Y ?_)))))))));show((-1):Int)=_;exfalso;contradiction
   ·refine Sk (Sr (p1 Y (q1 Y (DW Y Y Y Y (by omega)) (Pe Y (Cq (Cq (A0 mixed [] (by kernel_rfl) (tK 6 [0,1] Y (Tk 2 Y Y (AJ (l:=a) (j:=i) MU Y Y Y (λw' hs=>(rA hs b)) Y (lS d)) (Tk 3 Y Y (B2 DT Y Y) (Tk 4 Y Y (lr BK Y Y e Y) (tR 5 Y Y (ty 6 Y Y (cv L6 Y Y Y Y (λw' hs=>(BH (by omega))) ?_))))))))))))));refine tS (λ_ hs=>hs) (Tk 7 Y Y (E5 Y Y Y) (tE (Xt (AH [0,1,5,28] Y (R8 Y (λp=>?_) (λp=>?_))))))
    ·refine Sr (Pe Y (Ct (Xr (Xq (Xr (Xr (Xq (Xr (Ri Y Y ?_)))))))));show((-1):Int)=_;exfalso;contradiction
    ·refine Sk (Sr (p1 Y (q1 Y (DW Y Y Y Y (by omega)) (Pe Y (Cq (Cq (A0 mixed [] (by kernel_rfl) (tK 7 [0,1] Y (Tk 2 Y Y (AJ (l:=a) (j:=i) MU Y Y Y (λw' hs=>(rA hs b)) Y (lS d)) (Tk 3 Y Y (B2 EI Y Y) (Tk 4 Y Y (JP EH Y Y (q:=2) Y) (Tk 5 Y Y (lr BK Y Y e Y) (tR 6 Y Y (ty 7 Y Y (cv L6 Y Y Y Y (λw' hs=>(BH (by omega))) ?_)))))))))))))));refine tS (λ_ hs=>hs) (Tk 8 Y Y (E5 Y Y Y) (tE (Xt (R8 Y (λr=>?_) (λr=>?_)))))
     ·refine Sr (Pe Y (Ct (Xr (Xq (Xr (Xr (Xq (Xr (Ri Y Y ?_)))))))));show((-1):Int)=_;exfalso;contradiction
     ·refine Sk (Sr (p1 Y (q1 Y (DW Y Y Y Y (by omega)) (Pe Y (Sr (P2 Y Y (q1 Y (AJ (l:=a) (j:=i) MU Y Y Y (λw' hs=>(rA hs b)) Y (lS d)) (q1 Y (B2 EI Y Y) (q1 Y (JP BU Y Y (q:=3) Y) (q1 Y (lr B5 Y Y e Y) (p1 Y (qv A3y Y (λw' hs=>(RF (rA hs g) (by omega) (by omega) ‹_›)) (Pe Y (AH [0,1,5] Y (Sr ?_)))))))))))))));refine P2 Y Y (Dx (Cd Y (λs=>?_) (λs=>?_)))
      ·refine Sr (Pe Y (Ct (Xq (Xr (Xr (Xq (Xr (Ri Y Y ?_))))))));show((-1):Int)=_;exfalso;omega
      ·refine Ck (Xb (Xt (Cr (p1 Y (ad (i+1) Y (Pe Y (λac w' hf hs=>⟨_,?_,i+1,((((kk+1)+1)+1)+f.Fact.Args.length),?_,?_,Y,hf.wk Y,hs⟩)))))))
       ·omega
       ·omega
       ·omega
  ·refine Cx (Xx (Xx (Xe (Xt (Sr (P2 Y Y (Dx (Ct (Ri Y Y ?_)))))))));show(kk:Int)=_;rw[List.take_of_length_le (by omega)] at hk;exact hk
theorem SV(w0:World)(c:List Chunk)(w:World)(b:List Value)(a:Engine)(k:Int)(h0:0<=k)(h1:k+cEn a<=4611686018427387904)(d:St w0 (ov b (a:Engine)::c) w):Cy 13 [(.agg b.toArray),(iv k)] w (λe w'=>e= .returned (iv (k+cEn a))/\St w0 (ov b (mkE k a:Engine)::c) w'):=by
 obtain⟨f,v2,v3,v4,rfl,ho_v1,ho_v2,ho_v3,ho_v4⟩:=H5 (rO (k:=0) d rfl);have hce:cEn a=AI MC a.Rules+AI N9 a.Memory+AI QH a.Fired+AI TA a.Log:=rfl;refine CX 22 Tryz.func13 Y Y Y d (Sr (bX Y λg5=>?_));refine Pe Y (Dh (bx g5 [f,v2,(iv a.Clock),v3,(.bool a.Halted),v4]::ov [f,v2,(iv a.Clock),v3,(.bool a.Halted),v4] (a:Engine)::c) Y (Sr (fl 0 JM TR Y (p1 Y (BZ [1] 0 Y (BB (α:=(List Rule)) (β:=(List Stamp)× Int ×(List Firing)× Bool ×(List Event)) (c1:=[f]) (c2:=[v2,(iv a.Clock),v3,(.bool a.Halted),v4]) (x:=a.Rules) (y:=(a.Memory,a.Clock,a.Fired,a.Halted,a.Log)) Y Y (BZ [1] 0 Y (BB (α:=(List Stamp)) (β:=Int ×(List Firing)× Bool ×(List Event)) (c1:=[v2]) (c2:=[(iv a.Clock),v3,(.bool a.Halted),v4]) (x:=a.Memory) (y:=(a.Clock,a.Fired,a.Halted,a.Log)) Y Y (BZ [1] 0 Y (BB (α:=Int) (β:=(List Firing)× Bool ×(List Event)) (c1:=[(iv a.Clock)]) (c2:=[v3,(.bool a.Halted),v4]) (x:=a.Clock) (y:=(a.Fired,a.Halted,a.Log)) Y Y (BZ [] 1 Y (BB (α:=(List Firing)) (β:=Bool ×(List Event)) (c1:=[v3]) (c2:=[(.bool a.Halted),v4]) (x:=a.Fired) (y:=(a.Halted,a.Log)) Y Y (BZ [1] 0 Y (BB (α:=Bool) (β:=(List Event)) (c1:=[(.bool a.Halted)]) (c2:=[v4]) (x:=a.Halted) (y:=(a.Log)) Y Y (BZ [] 1 Y (BZ [3] 0 Y (li Y (cm A6q Y Y Y Y (λw' hs=>UD _ _ w' f a.Rules k ‹_› (by omega) hs) ?_))))))))))))))))));refine Pe Y (Dh (ov [f] (CP mL MC k a.Rules:(List Rule))::ov [v4] (a.Log:(List Event))::ov [v3] (a.Fired:(List Firing))::ov [v2] (a.Memory:(List Stamp))::_::c) Y (Sr (fl 4 J3 VN Y (p1 Y (BZ [3] 0 Y (li Y (cm A6r Y Y Y Y (λw' hs=>SS _ _ w' v2 a.Memory (k+AI MC a.Rules) (by omega) (by omega) hs) ?_)))))));refine Pe Y (Dh (ov [v2] (CP mM N9 (k+AI MC a.Rules) a.Memory:(List Stamp))::_::_::_::_::c) Y (Sr (fl 4 HM P7 Y (p1 Y (BZ [3] 0 Y (li Y (cm A6s Y Y Y Y (λw' hs=>RH _ _ w' v3 a.Fired ((k+AI MC a.Rules)+AI N9 a.Memory) (by omega) (by omega) hs) ?_)))))));refine Pe Y (Dh (ov [v3] (CP mN QH ((k+AI MC a.Rules)+AI N9 a.Memory) a.Fired:(List Firing))::_::_::_::_::c) Y (Sr (fl 4 L5 aY Y (p1 Y (BZ [3] 0 Y (li Y (cm A6t Y Y Y Y (λw' hs=>SU _ _ w' v4 a.Log (((k+AI MC a.Rules)+AI N9 a.Memory)+AI QH a.Fired) (by omega) (by omega) hs) ?_)))))));refine Pe Y (Sr (P2 Y Y (Dx (Ct (BZ [0,1,2,3] 0 Y (W0 (r:=(⟨CP mL MC k a.Rules,CP mM N9 (k+AI MC a.Rules) a.Memory,a.Clock,CP mN QH ((k+AI MC a.Rules)+AI N9 a.Memory) a.Fired,a.Halted,CP nR TA (((k+AI MC a.Rules)+AI N9 a.Memory)+AI QH a.Fired) a.Log⟩:Engine)) (A3 0 Y (show((⟨CP mL MC k a.Rules,CP mM N9 (k+AI MC a.Rules) a.Memory,a.Clock,CP mN QH ((k+AI MC a.Rules)+AI N9 a.Memory) a.Fired,a.Halted,CP nR TA (((k+AI MC a.Rules)+AI N9 a.Memory)+AI QH a.Fired) a.Log⟩:Engine):Engine)=mkE k a from by rfl) (FV Y Y λw' hs=>⟨congrArg (λz=>Ending.returned (Value.int .i64 z)) ?_,hs.fd [0,1] 1 Y⟩))))))));show(((((k+AI MC a.Rules)+AI N9 a.Memory)+AI QH a.Fired)+AI TA a.Log):Int)=k+cEn a;omega
theorem A9b{w:World}{b:List Value}{a:Engine}{k:Int}(m:Gd.rd w b a)(h0:0<=k)(h1:k+cEn a<=4611686018427387904)(l:a=mkE k a):Cy 14 [(.agg b.toArray),(iv k)] w (Val w (iv (k+cEn a))):=by
 obtain⟨q,r,s,t,rfl,c,d,e,f⟩:=C6 m;have u:=rM c;have n:=rM d;have o:=rM e;have p:=rM f;have hce:cEn a=AI MC a.Rules+AI N9 a.Memory+AI QH a.Fired+AI TA a.Log:=rfl;have hF1:a.Rules=A7W k a.Rules:=congrArg (λy=>y.Rules) l;have hF2:a.Memory=A7X (k+AI MC a.Rules) a.Memory:=congrArg (λy=>y.Memory) l;have hF3:a.Fired=A7Y (k+AI MC a.Rules+AI N9 a.Memory) a.Fired:=congrArg (λy=>y.Fired) l;have hF4:a.Log=A7Z (k+AI MC a.Rules+AI N9 a.Memory+AI QH a.Fired) a.Log:=congrArg (λy=>y.Log) l;refine enter 30 Tryz.func14 Y Y Y (Sr (bX Y λg13=>?_));refine Pe Y (Dh ([bx g13 [q,r,(iv a.Clock),s,(.bool a.Halted),t]]) Y (Sr (fl 0 JM TR Y (p1 Y (qv B3s Y (λw' hs=>(B0b (rA hs c) ‹_› (by omega) ‹_›)) (Pe Y (Cq (Sr (P2 Y Y (Dx (Cd Y (λg=>?_) (λg=>?_))))))))))))
 ·refine Sr (Pe Y (Ct (Xr (Ri Y Y ?_))));show((-1):Int)=_;exfalso;omega
 ·refine Sk (Sr (fl 0 J3 VN Y (p1 Y (qv B3t Y (λw' hs=>(B0Q (rA hs d) (by omega) (by omega) ‹_›)) (Pe Y (Cq (Sr (P2 Y Y (Dx (Cd Y (λh=>?_) (λh=>?_)))))))))))
  ·refine Sr (Pe Y (Ct (Xr (Ri Y Y ?_))));show((-1):Int)=_;exfalso;omega
  ·refine Sk (Sr (fl 0 HM P7 Y (p1 Y (qv B3u Y (λw' hs=>(B0D (rA hs e) (by omega) (by omega) ‹_›)) (Pe Y (AH [1,2] Y (Cq (Sr (P2 Y Y (Dx (Cd Y (λi=>?_) (λi=>?_))))))))))))
   ·refine Sr (Pe Y (Ct (Xr (Ri Y Y ?_))));show((-1):Int)=_;exfalso;omega
   ·refine Sk (Sr (fl 0 L5 aY Y (p1 Y (qv B3v Y (λw' hs=>(B0R (rA hs f) (by omega) (by omega) ‹_›)) (Pe Y (Cq (Sr (P2 Y Y (Dx (Cd Y (λj=>?_) (λj=>?_)))))))))))
    ·refine Sr (Pe Y (Ct (Xr (Ri Y Y ?_))));show((-1):Int)=_;exfalso;omega
    ·refine Sk (Sr (P2 Y Y (Dx (Ct (Ri Y Y ?_)))));show(((((k+AI MC a.Rules)+AI N9 a.Memory)+AI QH a.Fired)+AI TA a.Log):Int)=_;omega
end Go.Sy.Eng5
