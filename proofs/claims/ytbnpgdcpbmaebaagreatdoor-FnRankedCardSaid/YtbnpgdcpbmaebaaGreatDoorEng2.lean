/-
  Contracts of functions of the program, walked (printed by a program of ours).
  Conditions: those that each theorem states.
-/
import Derived.Test.YtbnpgdcpbmaebaaGreatDoorFct
import Derived.Test.YtbnpgdcpbmaebaaGreatDoorEng1
import Derived.Test.YtbnpgdcpbmaebaaGreatDoorRul
import Derived.Test.YtbnpgdcpbmaebaaGreatDoorShelf
set_option linter.unusedVariables false
set_option maxRecDepth 20000
namespace Go.Sy.Eng2
open Go Go.RowKit Go.Proofs Go.Sy
open Go.Sy.Bel1 Go.Sy.Ev1 Go.Sy.Eng1
theorem I8{w:World}{c:List Value}{p:Pattern}(f:Gd.rd w c p)(r:p.Args.length<=1048576)(s:IP p):Cy 159 [(.agg c.toArray)] w (HH w (AD (AM p.Args):List ByteArray)):=by
 obtain⟨q,rfl,b⟩:=B8 f;have t:=rM b;refine enter 27 Tryz.func159 Y Y Y (Sr (bX Y λg4=>?_));refine Pe Y (Dh ([bx g4 [(.string p.Rel),q]]) Y (Sr (li Y (FL (α:=ByteArray) C4D Y Y Y λv5=>?_))));refine Pe Y (Dh ([ov [v5] ([]:(List ByteArray)),_]) Y (Cq (Sr (Pe Y (Cb (Cl (λm_ ac w'=>∃(k:Nat),∃(v:Value),(k<=p.Args.length)/\m_=p.Args.length-k/\Fits ac 27 [(1,(pv g4)),(3,v),(4,(nv k))]/\St w ([ov [v] (AD (AM (p.Args.take k)):(List ByteArray)),bx g4 [(.string p.Rel),q]]) w') ?_ ?_))))))
 ·refine A3 0 Y (show([]:(List ByteArray))=AD (AM (p.Args.take 0)) from by rfl) (λac w' hf hs=>⟨_,0,v5,?_,Y,hf.wk Y,hs⟩)
  ·omega
 ·rintro m_ ac w' ⟨k,v,hk,rfl,hf,hs⟩;refine D.use ?_ hf hs;clear hf hs ac w';have hcs:=BO (AM (p.Args.take k));have hcl:=C1 (p.Args.take k);have htl:(p.Args.take k).length<=k:=by rw[List.length_take];omega
  refine Cq (Sr (p1 Y (fl 1 C4R C4Q Y (dl C4D Y (AE b) (Pe Y (Dh ([_,_]) Y (Cd Y (λg=>?_) (λg=>?_))))))))
  ·refine Sk (Cq (Cb (Sr (fl 1 C4R C4Q Y (p1 Y ?_)))));obtain⟨e,a⟩:=sI p.Args k;have h:e.size<=9223372036854775807:=s.2 _ (List.mem_of_getElem? a);obtain⟨i,at8,m⟩:=AC (n:=1) rfl b a;obtain rfl:i=[.string e]:=m;refine q1 Y (AJ (l:=p.Args) (j:=k) C4D Y Y Y (λw' hs=>(rA hs b)) Y (lS a)) (q1 Y (HI BK Y Y at8 Y) (qv pV Y (λw' hs=>(GQ h)) (Dx (Ci _ Y (λo=>?_) (λo=>?_)))))
   ·refine Cr (p1 Y (fl 1 C4R C4Q Y (p1 Y (q1 Y (AJ (l:=p.Args) (j:=k) C4D Y Y Y (λw' hs=>(rA hs b)) Y (lS a)) (q1 Y (HI BK Y Y at8 Y) (ql pM Y (λw' hs=>(HR (rO (k:=0) hs Y) (by omega))) λd=>?_))))));refine p1 Y (De (Xb (Xt (AH [1,3,4] Y (Dh ([ov [d] (CE (AD (AM (p.Args.take k))) e:(List ByteArray)),_,_]) Y (Cr (p1 Y (ad (k+1) Y (Pe Y (A3 0 Y (show(CE (AD (AM (p.Args.take k))) e:(List ByteArray))=AD (AM (p.Args.take (k+1))) from by exact wM a (by simp_all)) (λac w' hf hs=>⟨_,?_,k+1,d,?_,Y,hf.wk Y,hs.pk [0,2] Y Y⟩)))))))))))
    ·omega
    ·omega
   ·refine Ck (Xb (Xt (Cr (p1 Y (ad (k+1) Y (Pe Y (A3 0 Y (show(AD (AM (p.Args.take k)):(List ByteArray))=AD (AM (p.Args.take (k+1))) from by exact wN a (by simp_all)) (λac w' hf hs=>⟨_,?_,k+1,v,?_,Y,hf.wk Y,hs⟩))))))))
    ·omega
    ·omega
  ·refine Cx (Xx (Xx (Xe (Xt (Sr (P2 Y Y (Dx (Ct (FV Y Y λw' hs=>A7 (k:=0) hs Y ?_)))))))));show AD (AM (p.Args.take k))=AD (AM p.Args);rw[List.take_of_length_le (by omega)]
theorem KB{w:World}{a:Value}{l:(List ByteArray)}(b:Gd.rd w [a] l)(c:l.length<=4294967296):Cy 151 [a] w (HH w (l:List ByteArray)):=by
 have d:=rM b;refine enter 5 Tryz.func151 Y Y Y (Sr (Pe Y (Sr (p1 Y (CG (α:=ByteArray) (li Y (PW (α:=ByteArray) (ys:=l) C4D QZ Y Y Y Y Y Y (λw' hs=>(rA hs b)) (by simp;omega) (by simp;omega) λv2=>?_)))))));refine Pe Y (Ct (FV Y Y λw' hs=>A7 (k:=0) hs Y ?_));show([])++l=l;simp
theorem ZE{w:World}{a:Value}{l:(List ByteArray)}(b:Gd.rd w [a] l)(c:l.length<=4294967296):Cy 194 [a] w (HH w (l:List ByteArray)):=by
 have d:=rM b;refine enter 6 Tryz.func194 Y Y Y (Sr (Pe Y (Sr (li Y (FL (α:=ByteArray) C4D Y Y Y λv2=>?_)))));refine p1 Y (li Y (PW (α:=ByteArray) (ys:=l) C4D QZ Y Y Y Y Y Y (λw' hs=>(rA hs b)) (by simp;omega) (by simp;omega) λv3=>?_));refine Pe Y (Ct (FV Y Y λw' hs=>A7 (k:=0) hs Y ?_));show([])++l=l;simp
theorem IY{w:World}{a:List Value}{x:Cond}(b:Gd.rd w a x)(o:BW x<=1048576)(c:LB x):Cy 154 [(.agg a.toArray)] w (HH w (AD (A6 x):List ByteArray)):=by
 obtain⟨g,rfl,d⟩:=A8 b;have h:=rM d;have e:=AK b;have hca:=BX x;have hcv:=EF x;have hsl:=BO (AM x.Pattern.Args);have hvl:=C1 x.Pattern.Args;have hpl:=QE (AD (AM x.Pattern.Args)) x.Left;refine enter 22 Tryz.func154 Y Y Y (Sr (bX Y λg5=>?_));refine Pe Y (Dh ([bx g5 [(iv x.Kind),(.string x.Pattern.Rel),g,(.string x.Left),(.string x.Right)]]) Y (Sr (q1 Y (Db C4l Y Y (q:=1) Y) (q1 Y (H2 (es:=[(.string x.Pattern.Rel),g]) 0 B4a Y Y Y Y) (ql A3k Y (λw' hs=>(I8 (rA hs e) (by omega) c.2.1)) λi=>?_)))));refine Pe Y (Dh ([ov [i] (AD (AM x.Pattern.Args):(List ByteArray)),_]) Y (Cq (Sr (fl 1 B4z BK Y (qv pV Y (λw' hs=>(GQ (by exact c.2.2.1))) (Dx (Ci _ Y (λj=>?_) (λj=>?_))))))))
 ·refine Cr (p1 Y (fl 1 B4z BK Y (ql pM Y (λw' hs=>(HR (rO (k:=0) hs Y) (by omega))) λl=>?_)));refine Pe Y (Dh ([ov [l] (CE (AD (AM x.Pattern.Args)) x.Left:(List ByteArray)),_,_]) Y (Cq (Sr (fl 2 B4x BK Y (qv pV Y (λw' hs=>(GQ (by exact c.2.2.2))) (Dx (Ci _ Y (λm=>?_) (λm=>?_))))))))
  ·refine Cr (p1 Y (fl 2 B4x BK Y (ql pM Y (λw' hs=>(HR (rO (k:=0) hs Y) (by omega))) λn=>?_)));refine Pe Y (Sr (P2 Y Y (Dx (Ct (FV Y Y λw' hs=>A7 (k:=0) hs Y ?_)))));show CE (CE (AD (AM x.Pattern.Args)) x.Left) x.Right=AD (A6 x);exact A7T ‹_› ‹_›
  ·refine Sk (Sr (P2 Y Y (Dx (Ct (FV Y Y λw' hs=>A7 (k:=0) hs Y ?_)))));show CE (AD (AM x.Pattern.Args)) x.Left=AD (A6 x);exact A7R ‹_› ‹_›
 ·refine Sk (Cq (Sr (fl 1 B4x BK Y (qv pV Y (λw' hs=>(GQ (by exact c.2.2.2))) (Dx (Ci _ Y (λf=>?_) (λf=>?_)))))))
  ·refine Cr (p1 Y (fl 1 B4x BK Y (ql pM Y (λw' hs=>(HR (rO (k:=0) hs Y) (by omega))) λv12=>?_)));refine Pe Y (Sr (P2 Y Y (Dx (Ct (FV Y Y λw' hs=>A7 (k:=0) hs Y ?_)))));show CE (AD (AM x.Pattern.Args)) x.Right=AD (A6 x);exact A7S ‹_› ‹_›
  ·refine Sk (Sr (P2 Y Y (Dx (Ct (FV Y Y λw' hs=>A7 (k:=0) hs Y ?_)))));show AD (AM x.Pattern.Args)=AD (A6 x);exact A7Q ‹_› ‹_›
end Go.Sy.Eng2
