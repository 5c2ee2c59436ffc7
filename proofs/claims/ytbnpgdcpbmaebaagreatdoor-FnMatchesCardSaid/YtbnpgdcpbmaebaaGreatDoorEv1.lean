/-
  Contracts of functions of the program, walked (printed by a program of ours).
  Conditions: those that each theorem states.
-/
import Derived.Test.YtbnpgdcpbmaebaaGreatDoorFct
import Derived.Test.YtbnpgdcpbmaebaaGreatDoorBel1
import Derived.Test.YtbnpgdcpbmaebaaGreatDoorTypes
import Derived.Test.YtbnpgdcpbmaebaaGreatDoorEv
import Derived.Test.YtbnpgdcpbmaebaaGreatDoorBase
set_option linter.unusedVariables false
set_option maxRecDepth 20000
namespace Go.Sy.Ev1
open Go Go.RowKit Go.Proofs Go.Sy
open Go.Sy.Bel1
theorem FC{w:World}{s:ByteArray}:Cy 118 [(.string s)] w (Val w (.bool (BA s))):=by
 refine enter 40 Tryz.func118 Y Y Y (Sr (Pe Y (Cq (Sr (p1 Y (q1 Y (FZ F5 Y Y) (P2 Y Y (EY 7 Y Y (λa=>?_) (λa=>?_)))))))))
 ·refine n1 Y (n1 Y (n1 Y (Pe Y (GF Y (Sr (Pe Y (Ct (Xr (Rb Y Y ?_)))))))));exact S7 (by omega)
 ·refine p1 Y (q1 Y (FZ F5 Y Y) (P2 Y Y (Dx (Cd Y (λb=>?_) (λb=>?_)))))
  ·refine Sr (Pe Y (Ct (Xr (Rb Y Y ?_))));exact S7 (by omega)
  ·refine Sk (Cq (Sr (Pe Y (Cb (Cl (λm_ ac w'=>∃(k:Nat),(k<=s.size)/\(∀i,i<k->M8 (sB s i)=true)/\m_=s.size-k/\Fits ac 40 [(0,(.string s)),(3,(nv k))]/\St w ([]) w') ?_ ?_)))))
   ·refine λac w' hf hs=>⟨_,0,?_,?_,Y,hf.wk Y,hs⟩
    ·omega
    ·intro i hi;omega
   ·rintro m_ ac w' ⟨k,hk,hi,rfl,hf,hs⟩;refine D.use ?_ hf hs;clear hf hs ac w';refine Cq (Sr (P2 Y Y (q1 Y (FZ F5 Y Y) (Pe Y (Cd Y (λc=>?_) (λc=>?_))))))
    ·refine Sk (Cq (Cb (Sr (P2 Y Y (q1 Y (HL (j:=k) F5 Y Y Y Y (by omega)) (P2 Y Y (EY 22 Y Y (λd=>?_) (λd=>?_))))))))
     ·refine n1 Y (n1 Y (n1 Y (n1 Y (P3 Y Y Y (p1 Y (q1 Y (HL (j:=k) F5 Y Y Y Y (by omega)) (P2 Y Y (EY 33 Y Y (λe=>?_) (λe=>?_)))))))))
      ·refine n1 Y (n1 Y (n1 Y (n1 Y (P2 Y Y (Dx (AH [0,3,39] Y (GF Y (Sr (Pe Y (Ct (Xq (Xr (Xr (Xq (Xr (Rb Y Y ?_))))))))))))))));exact S8 (k:=k) (by omega) (fQ (by omega))
      ·refine P2 Y Y (q1 Y (HL (j:=k) F5 Y Y Y Y (by omega)) (P3 Y Y Y (Dx (AH [0,3,39] Y (Cd Y (λf=>?_) (λf=>?_))))))
       ·refine Sr (Pe Y (Ct (Xq (Xr (Xr (Xq (Xr (Rb Y Y ?_))))))));exact S8 (k:=k) (by omega) (fQ (by omega))
       ·refine Ck (Xb (Xt (Cr (p1 Y (ad (k+1) Y (Pe Y (λac w' hf hs=>⟨_,?_,k+1,?_,?_,Y,hf.wk Y,hs⟩)))))))
        ·omega
        ·omega
        ·exact AF hi (fP (by omega))
     ·refine P2 Y Y (q1 Y (HL (j:=k) F5 Y Y Y Y (by omega)) (P3 Y Y Y (EY 28 Y Y (λg=>?_) (λg=>?_))))
      ·refine P2 Y Y (q1 Y (HL (j:=k) F5 Y Y Y Y (by omega)) (P2 Y Y (EY 33 Y Y (λl=>?_) (λl=>?_))))
       ·refine n1 Y (n1 Y (n1 Y (n1 Y (P2 Y Y (Dx (AH [0,3,39] Y (GF Y (Sr (Pe Y (Ct (Xq (Xr (Xr (Xq (Xr (Rb Y Y ?_))))))))))))))));exact S7 (by omega)
       ·refine P2 Y Y (q1 Y (HL (j:=k) F5 Y Y Y Y (by omega)) (P3 Y Y Y (Dx (AH [0,3,39] Y (Cd Y (λm=>?_) (λm=>?_))))))
        ·refine Sr (Pe Y (Ct (Xq (Xr (Xr (Xq (Xr (Rb Y Y ?_))))))));exact S8 (k:=k) (by omega) (fQ (by omega))
        ·refine Ck (Xb (Xt (Cr (p1 Y (ad (k+1) Y (Pe Y (λac w' hf hs=>⟨_,?_,k+1,?_,?_,Y,hf.wk Y,hs⟩)))))))
         ·omega
         ·omega
         ·exact AF hi (fP (by omega))
      ·refine n1 Y (n1 Y (n1 Y (n1 Y (n1 Y (n1 Y (n1 Y (n1 Y (n1 Y (n1 Y (Pe Y (AH [0,3,39] Y (G7 Y (Ck (Xb (Xt (Cr (p1 Y (ad (k+1) Y (Pe Y ?_)))))))))))))))))));refine λac w' hf hs=>⟨_,?_,k+1,?_,?_,Y,hf.wk Y,hs⟩
       ·omega
       ·omega
       ·exact AF hi (fP (by omega))
    ·refine Cx (Xx (Xx (Xe (Xt (Sr (Pe Y (Ct (Rb Y Y ?_))))))));exact qQ (by omega) (λi h=>hi i (by omega))
theorem FD{w:World}{s:ByteArray}(d:s.size<=9223372036854775807):Cy 192 [(.string s)] w (Val w (.bool (BA s))):=by
 refine enter 27 Tryz.func192 Y Y Y (Sr (Pe Y (Cq (Sr (Pe Y (Cb (Cl (λm_ ac w'=>∃(k:Nat),(k<=s.size)/\(∀i,i<k->M8 (sB s i)=true)/\m_=s.size-k/\Fits ac 27 [(0,(.string s)),(3,(nv k))]/\St w ([]) w') ?_ ?_)))))))
 ·refine λac w' hf hs=>⟨_,0,?_,?_,Y,hf.wk Y,hs⟩
  ·omega
  ·intro i hi;omega
 ·rintro m_ ac w' ⟨k,hk,hi,rfl,hf,hs⟩;refine D.use ?_ hf hs;clear hf hs ac w';refine Cq (Sr (P2 Y Y (q1 Y (FZ F5 Y Y) (Pe Y (Cd Y (λa=>?_) (λa=>?_))))))
  ·refine Sk (Cq (Cb (Sr (P2 Y Y (q1 Y (HL (j:=k) F5 Y Y Y Y (by omega)) (q1 Y (oN LO ⟨_,VL⟩ Y Y) (qv B4A Y (λw' hs=>E7) (P2 Y Y (JQ 16 Y Y (λb=>?_) (λb=>?_))))))))))
   ·refine P2 Y Y (q1 Y (HL (j:=k) F5 Y Y Y Y (by omega)) (q1 Y (oN LO ⟨_,VL⟩ Y Y) (qv B4A Y (λw' hs=>E7) (P2 Y Y (Dx (AH [0,3,23] Y (CN Y (λc=>?_) (λc=>?_))))))))
    ·refine Sr (Pe Y (Ct (Xq (Xr (Xr (Xq (Xr (Rb Y Y ?_))))))));exact S8 (k:=k) (by omega) (by unfold M8;simp_all)
    ·refine Ck (Xb (Xt (Cr (p1 Y (ad (k+1) Y (Pe Y (λac w' hf hs=>⟨_,?_,k+1,?_,?_,Y,hf.wk Y,hs⟩)))))))
     ·omega
     ·omega
     ·exact AF hi (by unfold M8;simp_all)
   ·refine n1 Y (n1 Y (n1 Y (n1 Y (n1 Y (n1 Y (Pe Y (AH [0,3,23] Y (G7 Y (Ck (Xb (Xt (Cr (p1 Y (ad (k+1) Y (Pe Y (λac w' hf hs=>⟨_,?_,k+1,?_,?_,Y,hf.wk Y,hs⟩))))))))))))))))
    ·omega
    ·omega
    ·exact AF hi (by unfold M8;simp_all)
  ·refine Cx (Xx (Xx (Xe (Xt (Sr (p1 Y (q1 Y (FZ F5 Y Y) (qv B4A Y (λw' hs=>E7) (Pe Y (Ct (Rb Y Y ?_)))))))))));show((GO ((s.size:Nat):Int) 1 8):Bool)=_;exact A1g (λi h=>hi i (by omega))
theorem EA{w:World}{s:ByteArray}:Cy 104 [(.string s)] w (Val w (.bool (FK s))):=by
 refine enter 10 Tryz.func104 Y Y Y (Sr (Pe Y (Sr (p1 Y (qv A3V Y (λw' hs=>FC) (p1 Y (gs 5 Y Y (λh1=>?_) (λh1=>?_))))))))
 ·refine p1 Y ?_;have hsz:=IV (s:=s) ‹_›;refine q1 Y (HL (j:=0) F5 Y Y Y Y (by omega)) (P3 Y Y Y (Dx (Ct (Rb Y Y ?_))));show((decide ((97:Int)<=(sB s 0))):Bool)=_;unfold FK;simp_all
 ·refine n1 Y (n1 Y (n1 Y (P2 Y Y (Dx (Ct (Rb Y Y ?_))))));unfold FK;simp_all
theorem EB{w:World}{s:ByteArray}(a:s.size<=9223372036854775807):Cy 136 [(.string s)] w (Val w (.bool (FK s))):=by
 refine enter 11 Tryz.func136 Y Y Y (Sr (Pe Y (Sr (p1 Y (qv A0R Y (λw' hs=>(FD ‹_›)) (p1 Y (gs 5 Y Y (λh1=>?_) (λh1=>?_))))))))
 ·refine p1 Y ?_;have hsz:=IV (s:=s) ‹_›;refine q1 Y (HL (j:=0) F5 Y Y Y Y (by omega)) (q1 Y (oN LO ⟨_,VL⟩ Y Y) (qv B4A Y (λw' hs=>E7) (P2 Y Y (Dx (Ct (Rb Y Y ?_))))));show((GO (sB s 0) 97 122):Bool)=_;unfold FK;rw[A1h ‹_›];simp_all
 ·refine n1 Y (n1 Y (n1 Y (n1 Y (P2 Y Y (Dx (Ct (Rb Y Y ?_)))))));unfold FK;simp_all
theorem EQ{w:World}{d:List Value}{f:Fact}(g:Gd.rd w d f):Cy 60 [(.agg d.toArray)] w (Val w (.bool (BI f))):=by
 obtain⟨m,rfl,a⟩:=AS g;have t:=rM a;refine enter 26 Tryz.func60 Y Y Y (Sr (bX Y λg4=>?_));refine Pe Y (Dh ([bx g4 [(.string f.Rel),m]]) Y (Cq (Sr (fl 0 B5C BK Y (qv A0Y Y (λw' hs=>EA) (P2 Y Y (JQ 9 Y Y (λo=>?_) (λo=>?_))))))))
 ·refine n1 Y (n1 Y (n1 Y (n1 Y (Pe Y (GF Y (Sr (Pe Y (Ct (Xr (Rb Y Y ?_))))))))));unfold BI;simp_all
 ·refine fl 0 fR lX Y (dl aR Y (AE a) (P2 Y Y (Dx (Cd Y (λq=>?_) (λq=>?_)))))
  ·refine Sr (Pe Y (Ct (Xr (Rb Y Y ?_))));unfold BI;rw[decide_eq_false (by omega:¬f.Args.length<=3)];simp
  ·refine Sk (Cq (Sr (fl 0 fR lX Y (dl aR Y (AE a) (Pe Y (Cb (Cl (λm_ ac w'=>∃(k:Nat),(k<=f.Args.length)/\(∀i,i<k->∀y,f.Args[i]?=some y->BA y=true)/\m_=f.Args.length-k/\Fits ac 26 [(16,m),(17,(nv f.Args.length)),(18,(nv k))]/\St w ([bx g4 [(.string f.Rel),m]]) w') ?_ ?_)))))))
   ·refine λac w' hf hs=>⟨_,0,?_,?_,Y,hf.wk Y,hs⟩
    ·omega
    ·intro i hi;omega
   ·rintro m_ ac w' ⟨k,hk,hi,rfl,hf,hs⟩;refine D.use ?_ hf hs;clear hf hs ac w';refine Sr (Pe Y (Cq (Cd Y (λr=>?_) (λr=>?_))))
    ·refine Sk (Cq (Cb (Sr ?_)));obtain⟨a0,c⟩:=sI f.Args k;obtain⟨s,at9,e⟩:=AC (n:=1) rfl a c;obtain rfl:s=[.string a0]:=e;refine q1 Y (AJ (l:=f.Args) (j:=k) aR Y Y Y (λw' hs=>(rA hs a)) Y (lS c)) (q1 Y (HI BK Y Y at9 Y) (Pe Y (Sr (p1 Y (qv A3V Y (λw' hs=>FC) (Pe Y (CN Y (λb=>?_) (λb=>?_))))))))
     ·refine Sr (Pe Y (Ct (Xq (Xr (Xr (Xq (Xr (Rb Y Y ?_))))))));unfold BI;rw[S6 (p:=BA) c b];simp
     ·refine Ck (Xb (Xt (Cr (ad (k+1) Y (Pe Y (λac w' hf hs=>⟨_,?_,k+1,?_,?_,Y,hf.wk Y,hs⟩))))))
      ·omega
      ·omega
      ·refine AF hi ?_;intro y hy;obtain rfl:y=a0:=Option.some.inj (hy.symm.trans c);exact b
    ·refine Cx (Xx (Xx (Xe (Xt (Sr (Pe Y (Ct (Rb Y Y ?_))))))));unfold BI;rw[IN (p:=BA) (λi h=>hi i (by omega)),decide_eq_true (by omega:f.Args.length<=3)];simp_all
theorem ER{w:World}{d:List Value}{f:Fact}(g:Gd.rd w d f)(e:P9 f):Cy 135 [(.agg d.toArray)] w (Val w (.bool (BI f))):=by
 obtain⟨t,rfl,a⟩:=AS g;have u:=rM a;refine enter 27 Tryz.func135 Y Y Y (Sr (bX Y λg4=>?_));refine Pe Y (Dh ([bx g4 [(.string f.Rel),t]]) Y (Cq (Sr (Pe Y (Cb (Cl (λm_ ac w'=>∃(k:Nat),(k<=f.Args.length)/\(∀i,i<k->∀y,f.Args[i]?=some y->BA y=true)/\m_=f.Args.length-k/\Fits ac 27 [(1,(pv g4)),(3,(nv k))]/\St w ([bx g4 [(.string f.Rel),t]]) w') ?_ ?_))))))
 ·refine λac w' hf hs=>⟨_,0,?_,?_,Y,hf.wk Y,hs⟩
  ·omega
  ·intro i hi;omega
 ·rintro m_ ac w' ⟨k,hk,hi,rfl,hf,hs⟩;refine D.use ?_ hf hs;clear hf hs ac w';refine Cq (Sr (p1 Y (fl 0 fR lX Y (dl aR Y (AE a) (Pe Y (Cd Y (λm=>?_) (λm=>?_)))))))
  ·refine Sk (Cq (Cb (Sr (fl 0 fR lX Y (p1 Y ?_)))));obtain⟨a0,b⟩:=sI f.Args k;have v:a0.size<=9223372036854775807:=e.2 _ (List.mem_of_getElem? b);obtain⟨o,q,r⟩:=AC (n:=1) rfl a b;obtain rfl:o=[.string a0]:=r;refine q1 Y (AJ (l:=f.Args) (j:=k) aR Y Y Y (λw' hs=>(rA hs a)) Y (lS b)) (q1 Y (HI BK Y Y q Y) (qv A0R Y (λw' hs=>(FD ‹_›)) (Pe Y (CN Y (λc=>?_) (λc=>?_)))))
   ·refine Sr (Pe Y (Ct (Xq (Xr (Xr (Xq (Xr (Rb Y Y ?_))))))));unfold BI;rw[S6 (p:=BA) b c];simp
   ·refine Ck (Xb (Xt (Cr (p1 Y (ad (k+1) Y (Pe Y (λac w' hf hs=>⟨_,?_,k+1,?_,?_,Y,hf.wk Y,hs⟩)))))))
    ·omega
    ·omega
    ·refine AF hi ?_;intro y hy;obtain rfl:y=a0:=Option.some.inj (hy.symm.trans b);exact c
  ·refine Cx (Xx (Xx (Xe (Xt (Sr (fl 0 B5C BK Y (qv A4y Y (λw' hs=>(EB e.1)) (p1 Y (gs 21 Y Y (λs=>?_) (λs=>?_))))))))))
   ·refine fl 0 fR lX Y (dl aR Y (AE a) (P3 Y Y Y (Dx (Ct (Rb Y Y ?_)))));show((decide ((((f.Args.length:Nat):Int):Int)<=3)):Bool)=_;unfold BI;rw[IN (p:=BA) (λi h=>hi i (by omega))];simp_all;try omega
   ·refine n1 Y (n1 Y (n1 Y (n1 Y (P2 Y Y (Dx (Ct (Rb Y Y ?_)))))));unfold BI;rw[IN (p:=BA) (λi h=>hi i (by omega))];simp_all;try omega
end Go.Sy.Ev1
