/-
  Contracts of functions of the program, walked (printed by a program of ours).
  Conditions: those that each theorem states.
-/
import Derived.Test.YtbnpgdcpbmaebaaGreatDoorFct
import Derived.Test.YtbnpgdcpbmaebaaGreatDoorMat3
import Derived.Test.YtbnpgdcpbmaebaaGreatDoorCho2
import Derived.Test.YtbnpgdcpbmaebaaGreatDoorNum2
import Derived.Test.YtbnpgdcpbmaebaaGreatDoorCho
set_option linter.unusedVariables false
set_option maxRecDepth 20000
namespace Go.Sy.Mat5
open Go Go.RowKit Go.Proofs Go.Sy
open Go.Sy.Bel1 Go.Sy.Ev1 Go.Sy.Fmt1 Go.Sy.Eng1 Go.Sy.Eng2 Go.Sy.Eng3 Go.Sy.Num1 Go.Sy.Num2 Go.Sy.Cho2 Go.Sy.Mat1 Go.Sy.Mat2 Go.Sy.Mat3
theorem B0m{w:World}{m:List Value}{p:Pattern}{f:Value}{b:(List Pair)}(o:Gd.rd w m p)(g:Gd.rd w [f] b):Cy 12 [(.agg m.toArray),f] w (O8 w (A8L p b:Fact) (A8q p b:Bool)):=by
 obtain⟨u1,rfl,d⟩:=B8 o;have a3:=rM d;have a4:=rM g;refine enter 47 Tryz.func12 Y Y Y (Sr (bX Y λg5=>?_));refine aL B4n Y λg6=>?_
 refine Pe Y (Dh ([bx g6 [(.string ⟨#[]⟩),(.slice none 0 0)],bx g5 [(.string p.Rel),u1]]) Y (Cq (Sr (q1 Y (C9 1 B4a Y Y Y) (qv B3x Y (λw' hs=>(GU (rA hs o))) (P2 Y Y (JQ 14 Y Y (λa1=>?_) (λa1=>?_))))))))
 ·refine n1 Y (n1 Y (n1 Y (Pe Y (GF Y (Sr (q1 Y (FY (vs:=[]) (cs:=[(.string ⟨#[]⟩),(.slice none 0 0)]) Y (λ_=>by kernel_rfl) Y) (li Y (AZ (vs:=[(.string ⟨#[]⟩),(.slice none 0 0)]) (cs':=[(.string ⟨#[]⟩),(.slice none 0 0)]) 0 B5j Y Y Y Y Y Y (AB Y (AB Y BR)) (by simp) Y ?_))))))));refine Pe Y (Ct (Xr (CG (α:=ByteArray) (S4 (r:=(⟨⟨#[]⟩,[]⟩:Fact)) (AX false (AG [1,0,2,3] Y (DL Y (zH (cs:=[(.string ⟨#[]⟩),(.slice none 0 0)]) 2 B4Z Y Y) (D8 Y) λw' hs=>AY (c1:=[(.string ⟨#[]⟩),(.slice none 0 0)]) (c2:=[(.bool false)]) hs ?_ ?_)))))))
  ·show((⟨⟨#[]⟩,[]⟩:Fact):Fact)=A8L p b;exact(A7z (A8P ‹_›)).1
  ·show(false:Bool)=A8q p b;exact(A7z (A8P ‹_›)).2
 ·refine p1 Y (qv A7D Y (λw' hs=>(IC (rA hs g))) (P2 Y Y (Dx (CN Y (λa2=>?_) (λa2=>?_)))))
  ·refine Sr (q1 Y (FY (vs:=[]) (cs:=[(.string ⟨#[]⟩),(.slice none 0 0)]) Y (λ_=>by kernel_rfl) Y) (li Y (AZ (vs:=[(.string ⟨#[]⟩),(.slice none 0 0)]) (cs':=[(.string ⟨#[]⟩),(.slice none 0 0)]) 0 B5j Y Y Y Y Y Y (AB Y (AB Y BR)) (by simp) Y ?_)));refine Pe Y (Ct (Xr (CG (α:=ByteArray) (S4 (r:=(⟨⟨#[]⟩,[]⟩:Fact)) (AX false (AG [1,0,2,3] Y (DL Y (zH (cs:=[(.string ⟨#[]⟩),(.slice none 0 0)]) 2 B4Z Y Y) (D8 Y) λw' hs=>AY (c1:=[(.string ⟨#[]⟩),(.slice none 0 0)]) (c2:=[(.bool false)]) hs ?_ ?_)))))))
   ·show((⟨⟨#[]⟩,[]⟩:Fact):Fact)=A8L p b;exact(A7z (A8Q ‹_›)).1
   ·show(false:Bool)=A8q p b;exact(A7z (A8Q ‹_›)).2
  ·refine Sk (Cq ?_);have hpl:=B1o ‹CK p=true›;refine Cr (fl 1 B5Y BK Y (q1 Y (FY (vs:=[(0,(.string p.Rel))]) (cs:=[(.string p.Rel),(.slice none 0 0)]) Y (λ_=>by kernel_rfl) Y) (aL B4n Y λg9=>?_)));refine li Y (AZ (vs:=[(.string p.Rel),(.slice none 0 0)]) (cs':=[(.string p.Rel),(.slice none 0 0)]) 0 B5j Y Y Y Y Y Y (AB Y (AB Y BR)) (by simp) Y ?_);refine Dx (Dh ([bx g9 [(.string p.Rel),(.slice none 0 0)],_,_]) Y (Cq (Sr (fl 2 lY lX Y (dl aR Y (AE d) (Pe Y (AH [1,4,6,24,25,26] Y (AG [0,1] Y (Cb (Cl (λm_ ac w'=>∃(k:Nat),∃(v:Value),(k<=p.Args.length)/\(∀i,i<k->∀y,p.Args[i]?=some y->HU b y=true)/\m_=p.Args.length-k/\Fits ac 47 [(1,f),(4,(pv g6)),(6,(pv g9)),(24,u1),(25,(nv p.Args.length)),(26,(nv k))]/\St w ([ov [v] ((p.Args.take k).map (EJ b):(List ByteArray)),bx g9 [(.string p.Rel),v],bx g6 [(.string ⟨#[]⟩),(.slice none 0 0)]]) w') ?_ ?_))))))))))
   ·refine CG (α:=ByteArray) (A3 0 Y (show([]:(List ByteArray))=(p.Args.take 0).map (EJ b) from by simp) (λac w' hf hs=>⟨_,0,(.slice none 0 0),?_,?_,Y,hf.wk Y,hs⟩))
    ·omega
    ·intro i hi;omega
   ·rintro m_ ac w' ⟨k,v,hk,hi,rfl,hf,hs⟩;refine D.use ?_ hf hs;clear hf hs ac w';have hcl:=uU (EJ b) p.Args k;refine Sr (Pe Y (Dh ([_,_,_]) Y (Cq (Cd Y (λs=>?_) (λs=>?_)))))
    ·refine Sk (Cq (Cb (Sr ?_)));obtain⟨h,a⟩:=sI p.Args k;obtain⟨t,u,x⟩:=AC (n:=1) rfl d a;obtain rfl:t=[.string h]:=x;refine q1 Y (AJ (l:=p.Args) (j:=k) aR Y Y Y (λw' hs=>(rA hs d)) Y (lS a)) (q1 Y (HI BK Y Y u Y) (Pe Y (Sr (P2 Y Y (lM A6w Y (λw' hs=>(MJ (rA hs g))) (v:=(.tuple #[(.string (EJ b h)),(.bool (HU b h))])) Y (P3 Y Y Y (P2 Y Y (Dx (Cq (Sr (P2 Y Y (Dx (CN Y (λz=>?_) (λz=>?_))))))))))))))
     ·refine Sr (q1 Y (FY (vs:=[]) (cs:=[(.string ⟨#[]⟩),(.slice none 0 0)]) Y (λ_=>by kernel_rfl) Y) (li Y (AZ (vs:=[(.string ⟨#[]⟩),(.slice none 0 0)]) (cs':=[(.string ⟨#[]⟩),(.slice none 0 0)]) 2 B5j Y Y Y Y Y Y (AB Y (AB Y BR)) (by simp) Y ?_)));refine Pe Y (Ct (Xr (Xq (Xr (Xr (Xq (Xr (CG (α:=ByteArray) (S4 (r:=(⟨⟨#[]⟩,[]⟩:Fact)) (AX false (AG [1,0,2,3,4] Y (DL Y (zH (cs:=[(.string ⟨#[]⟩),(.slice none 0 0)]) 4 B4Z Y Y) (D8 Y) λw' hs=>AY (c1:=[(.string ⟨#[]⟩),(.slice none 0 0)]) (c2:=[(.bool false)]) hs ?_ ?_))))))))))))
      ·show((⟨⟨#[]⟩,[]⟩:Fact):Fact)=A8L p b;exact(A7z (A8R a ‹_›)).1
      ·show(false:Bool)=A8q p b;exact(A7z (A8R a ‹_›)).2
     ·refine Sk (Cr (fl 1 fR lX Y (p1 Y (li Y (FF aR QZ Y (by decide) (by decide) Y Y Y Y Y Y λg17=>?_)))));refine OI (EJ b h) (AG [2,0,1,3,4] Y (li Y (GZ aR QZ Y (by decide) Y Y Y Y Y Y (by omega) (by omega) λc=>?_)));refine q1 Y (Db fR Y Y (q:=1) Y) (Dp (λw' hs=>CZ (k:=0) hs Y) ?_);intro e;refine li Y (AZ (vs:=[c]) (cs':=[(.string p.Rel),c]) 1 A3b Y Y Y Y Y (AO e) (AB e BR) (by simp) Y ?_);refine De (Xb (Xt (AH [1,4,6,24,25,26] Y (Dh ([ov [c] (((p.Args.take k).map (EJ b))++ [(EJ b h)]:(List ByteArray)),bx g9 [(.string p.Rel),c],_]) Y (Cr (ad (k+1) Y (Pe Y (A3 0 Y (show(((p.Args.take k).map (EJ b))++ [(EJ b h)]:(List ByteArray))=(p.Args.take (k+1)).map (EJ b) from by exact B2q a) (λac w' hf hs=>⟨_,?_,k+1,c,?_,?_,Y,hf.wk Y,hs⟩)))))))))
      ·omega
      ·omega
      ·refine AF hi ?_;intro y hy;obtain rfl:y=h:=Option.some.inj (hy.symm.trans a);assumption
    ·refine Cx (Xx (Xx (Xe (Xt (Sr (q1 Y (C9 1 B4Z Y Y Y) (Dp (λw' hs=>CZ (k:=0) hs Y) ?_)))))));intro a0;refine li Y (AZ (vs:=[(.string p.Rel),v]) (cs':=[(.string p.Rel),v]) 2 B5j Y Y Y Y Y Y (AB Y (AB a0 BR)) (by simp) Y ?_);refine Pe Y (Ct (S4 (r:=(⟨p.Rel,(p.Args.take k).map (EJ b)⟩:Fact)) (AX true (AG [1,0,2,3] Y (DL Y (zH (cs:=[(.string p.Rel),v]) 3 B4Z Y Y) (D8 Y) λw' hs=>AY (c1:=[(.string p.Rel),v]) (c2:=[(.bool true)]) hs ?_ ?_)))))
     ·show((⟨p.Rel,(p.Args.take k).map (EJ b)⟩:Fact):Fact)=A8L p b;exact(A8W ‹_› ‹_› (by omega) hi).1
     ·show(true:Bool)=A8q p b;exact(A8W ‹_› ‹_› (by omega) hi).2
end Go.Sy.Mat5
