/-
  Contracts of functions of the program, walked (printed by a program of ours).
  Conditions: those that each theorem states.
-/
import Derived.Test.YtfmjgnjaoihefaaGreatDoorFct
import Derived.Test.YtfmjgnjaoihefaaGreatDoorBel1
import Derived.Test.YtfmjgnjaoihefaaGreatDoorTypes
import Derived.Test.YtfmjgnjaoihefaaGreatDoorEv
import Derived.Test.YtfmjgnjaoihefaaGreatDoorBase
set_option linter.unusedVariables false
set_option maxRecDepth 20000
namespace Go.Sy.Ev1
open Go Go.RowKit Go.Proofs Go.Sy
open Go.Sy.Bel1
theorem FC{w:World}{s:ByteArray}:Cy 174 [(.string s)] w (Val w (.bool (BA s))):=by
 refine enter 40 Tryz.func174 Y Y Y (Sr (Pe Y (Cq (Sr (p1 Y (q1 Y (FZ F5 Y Y) (P2 Y Y (EY 7 Y Y (λa=>?_) (λa=>?_)))))))))
 ·refine n1 Y (n1 Y (n1 Y (Pe Y (GF Y (Sr (Pe Y (Ct (Xr (Rb Y Y ?_)))))))));exact S7 (by omega)
 ·refine p1 Y (q1 Y (FZ F5 Y Y) (P2 Y Y (Dx (Cd Y (λb=>?_) (λb=>?_)))))
  ·refine Sr (Pe Y (Ct (Xr (Rb Y Y ?_))));exact S7 (by omega)
  ·refine Sk (Cq (Sr (Pe Y (Cb (Cl (λm_ ac w'=>∃(k:Nat),(k<=s.size)/\(∀i,i<k->M8 (sB s i)=true)/\m_=s.size-k/\Fits ac 40 [(0,(.string s)),(3,(nv k))]/\St w ([]) w') ?_ ?_)))))
   ·refine λac w' hf hs=>⟨_,0,?_,?_,Y,hf.wk Y,hs⟩
    ·omega
    ·intro i hi;omega
   ·rintro m_ ac w' ⟨k,hk,hi,rfl,hf,hs⟩;refine D.use ?_ hf hs;clear hf hs ac w';refine Cq (Sr (P2 Y Y (q1 Y (FZ F5 Y Y) (Pe Y (Cd Y (λc=>?_) (λc=>?_))))))
    ·refine Sk (Cq (Cb (Sr (P2 Y Y (q1 Y (HL (j:=k) F5 Y Y Y Y (by omega)) (P2 Y Y (EY 22 Y Y (λd=>?_) (λd=>?_))))))))
     ·refine n1 Y (n1 Y (n1 Y (n1 Y (P3 Y Y Y (p1 Y (q1 Y (HL (j:=k) F5 Y Y Y Y (by omega)) (P2 Y Y (EY 33 Y Y (λe=>?_) (λe=>?_)))))))))
      ·refine n1 Y (n1 Y (n1 Y (n1 Y (P2 Y Y (Dx (AH [0,3,39] Y (GF Y (Sr (Pe Y (Ct (Xq (Xr (Xr (Xq (Xr (Rb Y Y ?_))))))))))))))));exact S8 (k:=k) (by omega) (fQ (by omega))
      ·refine P2 Y Y (q1 Y (HL (j:=k) F5 Y Y Y Y (by omega)) (P3 Y Y Y (Dx (AH [0,3,39] Y (Cd Y (λf=>?_) (λf=>?_))))))
       ·refine Sr (Pe Y (Ct (Xq (Xr (Xr (Xq (Xr (Rb Y Y ?_))))))));exact S8 (k:=k) (by omega) (fQ (by omega))
       ·refine Ck (Xb (Xt (Cr (p1 Y (ad (k+1) Y (Pe Y (λac w' hf hs=>⟨_,?_,k+1,?_,?_,Y,hf.wk Y,hs⟩)))))))
        ·omega
        ·omega
        ·exact AF hi (fP (by omega))
     ·refine P2 Y Y (q1 Y (HL (j:=k) F5 Y Y Y Y (by omega)) (P3 Y Y Y (EY 28 Y Y (λg=>?_) (λg=>?_))))
      ·refine P2 Y Y (q1 Y (HL (j:=k) F5 Y Y Y Y (by omega)) (P2 Y Y (EY 33 Y Y (λl=>?_) (λl=>?_))))
       ·refine n1 Y (n1 Y (n1 Y (n1 Y (P2 Y Y (Dx (AH [0,3,39] Y (GF Y (Sr (Pe Y (Ct (Xq (Xr (Xr (Xq (Xr (Rb Y Y ?_))))))))))))))));exact S7 (by omega)
       ·refine P2 Y Y (q1 Y (HL (j:=k) F5 Y Y Y Y (by omega)) (P3 Y Y Y (Dx (AH [0,3,39] Y (Cd Y (λm=>?_) (λm=>?_))))))
        ·refine Sr (Pe Y (Ct (Xq (Xr (Xr (Xq (Xr (Rb Y Y ?_))))))));exact S8 (k:=k) (by omega) (fQ (by omega))
        ·refine Ck (Xb (Xt (Cr (p1 Y (ad (k+1) Y (Pe Y (λac w' hf hs=>⟨_,?_,k+1,?_,?_,Y,hf.wk Y,hs⟩)))))))
         ·omega
         ·omega
         ·exact AF hi (fP (by omega))
      ·refine n1 Y (n1 Y (n1 Y (n1 Y (n1 Y (n1 Y (n1 Y (n1 Y (n1 Y (n1 Y (Pe Y (AH [0,3,39] Y (G7 Y (Ck (Xb (Xt (Cr (p1 Y (ad (k+1) Y (Pe Y ?_)))))))))))))))))));refine λac w' hf hs=>⟨_,?_,k+1,?_,?_,Y,hf.wk Y,hs⟩
       ·omega
       ·omega
       ·exact AF hi (fP (by omega))
    ·refine Cx (Xx (Xx (Xe (Xt (Sr (Pe Y (Ct (Rb Y Y ?_))))))));exact qQ (by omega) (λi h=>hi i (by omega))
theorem FD{w:World}{s:ByteArray}(d:s.size<=9223372036854775807):Cy 209 [(.string s)] w (Val w (.bool (BA s))):=by
 refine enter 27 Tryz.func209 Y Y Y (Sr (Pe Y (Cq (Sr (Pe Y (Cb (Cl (λm_ ac w'=>∃(k:Nat),(k<=s.size)/\(∀i,i<k->M8 (sB s i)=true)/\m_=s.size-k/\Fits ac 27 [(0,(.string s)),(3,(nv k))]/\St w ([]) w') ?_ ?_)))))))
 ·refine λac w' hf hs=>⟨_,0,?_,?_,Y,hf.wk Y,hs⟩
  ·omega
  ·intro i hi;omega
 ·rintro m_ ac w' ⟨k,hk,hi,rfl,hf,hs⟩;refine D.use ?_ hf hs;clear hf hs ac w';refine Cq (Sr (P2 Y Y (q1 Y (FZ F5 Y Y) (Pe Y (Cd Y (λa=>?_) (λa=>?_))))))
  ·refine Sk (Cq (Cb (Sr (P2 Y Y (q1 Y (HL (j:=k) F5 Y Y Y Y (by omega)) (q1 Y (oN LO ⟨_,VL⟩ Y Y) (qv SP Y (λw' hs=>E7) (P2 Y Y (JQ 16 Y Y (λb=>?_) (λb=>?_))))))))))
   ·refine P2 Y Y (q1 Y (HL (j:=k) F5 Y Y Y Y (by omega)) (q1 Y (oN LO ⟨_,VL⟩ Y Y) (qv SP Y (λw' hs=>E7) (P2 Y Y (Dx (AH [0,3,23] Y (CN Y (λc=>?_) (λc=>?_))))))))
    ·refine Sr (Pe Y (Ct (Xq (Xr (Xr (Xq (Xr (Rb Y Y ?_))))))));exact S8 (k:=k) (by omega) (by unfold M8;simp_all)
    ·refine Ck (Xb (Xt (Cr (p1 Y (ad (k+1) Y (Pe Y (λac w' hf hs=>⟨_,?_,k+1,?_,?_,Y,hf.wk Y,hs⟩)))))))
     ·omega
     ·omega
     ·exact AF hi (by unfold M8;simp_all)
   ·refine n1 Y (n1 Y (n1 Y (n1 Y (n1 Y (n1 Y (Pe Y (AH [0,3,23] Y (G7 Y (Ck (Xb (Xt (Cr (p1 Y (ad (k+1) Y (Pe Y (λac w' hf hs=>⟨_,?_,k+1,?_,?_,Y,hf.wk Y,hs⟩))))))))))))))))
    ·omega
    ·omega
    ·exact AF hi (by unfold M8;simp_all)
  ·refine Cx (Xx (Xx (Xe (Xt (Sr (p1 Y (q1 Y (FZ F5 Y Y) (qv SP Y (λw' hs=>E7) (Pe Y (Ct (Rb Y Y ?_)))))))))));show((GO ((s.size:Nat):Int) 1 8):Bool)=_;exact A1g (λi h=>hi i (by omega))
theorem EA{w:World}{s:ByteArray}:Cy 163 [(.string s)] w (Val w (.bool (FK s))):=by
 refine enter 10 Tryz.func163 Y Y Y (Sr (Pe Y (Sr (p1 Y (qv P4 Y (λw' hs=>FC) (p1 Y (gs 5 Y Y (λh1=>?_) (λh1=>?_))))))))
 ·refine p1 Y ?_;have hsz:=IV (s:=s) ‹_›;refine q1 Y (HL (j:=0) F5 Y Y Y Y (by omega)) (P3 Y Y Y (Dx (Ct (Rb Y Y ?_))));show((decide ((97:Int)<=(sB s 0))):Bool)=_;unfold FK;simp_all
 ·refine n1 Y (n1 Y (n1 Y (P2 Y Y (Dx (Ct (Rb Y Y ?_))))));unfold FK;simp_all
theorem EB{w:World}{s:ByteArray}(a:s.size<=9223372036854775807):Cy 151 [(.string s)] w (Val w (.bool (FK s))):=by
 refine enter 11 Tryz.func151 Y Y Y (Sr (Pe Y (Sr (p1 Y (qv P5 Y (λw' hs=>(FD ‹_›)) (p1 Y (gs 5 Y Y (λh1=>?_) (λh1=>?_))))))))
 ·refine p1 Y ?_;have hsz:=IV (s:=s) ‹_›;refine q1 Y (HL (j:=0) F5 Y Y Y Y (by omega)) (q1 Y (oN LO ⟨_,VL⟩ Y Y) (qv SP Y (λw' hs=>E7) (P2 Y Y (Dx (Ct (Rb Y Y ?_))))));show((GO (sB s 0) 97 122):Bool)=_;unfold FK;rw[A1h ‹_›];simp_all
 ·refine n1 Y (n1 Y (n1 Y (n1 Y (P2 Y Y (Dx (Ct (Rb Y Y ?_)))))));unfold FK;simp_all
theorem EQ{w:World}{d:List Value}{f:Fact}(g:Gd.rd w d f):Cy 132 [(.agg d.toArray)] w (Val w (.bool (BI f))):=by
 obtain⟨m,rfl,a⟩:=AS g;have t:=rM a;refine enter 26 Tryz.func132 Y Y Y (Sr (bX Y λg4=>?_));refine Pe Y (Dh ([bx g4 [(.string f.Rel),m]]) Y (Cq (Sr (fl 0 EH BK Y (qv M0 Y (λw' hs=>EA) (P2 Y Y (JQ 9 Y Y (λo=>?_) (λo=>?_))))))))
 ·refine n1 Y (n1 Y (n1 Y (n1 Y (Pe Y (GF Y (Sr (Pe Y (Ct (Xr (Rb Y Y ?_))))))))));unfold BI;simp_all
 ·refine fl 0 BU B5 Y (dl AU Y (AE a) (P2 Y Y (Dx (Cd Y (λq=>?_) (λq=>?_)))))
  ·refine Sr (Pe Y (Ct (Xr (Rb Y Y ?_))));unfold BI;rw[decide_eq_false (by omega:¬f.Args.length<=3)];simp
  ·refine Sk (Cq (Sr (fl 0 BU B5 Y (dl AU Y (AE a) (Pe Y (Cb (Cl (λm_ ac w'=>∃(k:Nat),(k<=f.Args.length)/\(∀i,i<k->∀y,f.Args[i]?=some y->BA y=true)/\m_=f.Args.length-k/\Fits ac 26 [(16,m),(17,(nv f.Args.length)),(18,(nv k))]/\St w ([bx g4 [(.string f.Rel),m]]) w') ?_ ?_)))))))
   ·refine λac w' hf hs=>⟨_,0,?_,?_,Y,hf.wk Y,hs⟩
    ·omega
    ·intro i hi;omega
   ·rintro m_ ac w' ⟨k,hk,hi,rfl,hf,hs⟩;refine D.use ?_ hf hs;clear hf hs ac w';refine Sr (Pe Y (Cq (Cd Y (λr=>?_) (λr=>?_))))
    ·refine Sk (Cq (Cb (Sr ?_)));obtain⟨a0,c⟩:=sI f.Args k;obtain⟨s,at9,e⟩:=AC (n:=1) rfl a c;obtain rfl:s=[.string a0]:=e;refine q1 Y (AJ (l:=f.Args) (j:=k) AU Y Y Y (λw' hs=>(rA hs a)) Y (lS c)) (q1 Y (HI BK Y Y at9 Y) (Pe Y (Sr (p1 Y (qv P4 Y (λw' hs=>FC) (Pe Y (CN Y (λb=>?_) (λb=>?_))))))))
     ·refine Sr (Pe Y (Ct (Xq (Xr (Xr (Xq (Xr (Rb Y Y ?_))))))));unfold BI;rw[S6 (p:=BA) c b];simp
     ·refine Ck (Xb (Xt (Cr (ad (k+1) Y (Pe Y (λac w' hf hs=>⟨_,?_,k+1,?_,?_,Y,hf.wk Y,hs⟩))))))
      ·omega
      ·omega
      ·refine AF hi ?_;intro y hy;obtain rfl:y=a0:=Option.some.inj (hy.symm.trans c);exact b
    ·refine Cx (Xx (Xx (Xe (Xt (Sr (Pe Y (Ct (Rb Y Y ?_))))))));unfold BI;rw[IN (p:=BA) (λi h=>hi i (by omega)),decide_eq_true (by omega:f.Args.length<=3)];simp_all
theorem ER{w:World}{d:List Value}{f:Fact}(g:Gd.rd w d f)(e:P9 f):Cy 150 [(.agg d.toArray)] w (Val w (.bool (BI f))):=by
 obtain⟨t,rfl,a⟩:=AS g;have u:=rM a;refine enter 27 Tryz.func150 Y Y Y (Sr (bX Y λg4=>?_));refine Pe Y (Dh ([bx g4 [(.string f.Rel),t]]) Y (Cq (Sr (Pe Y (Cb (Cl (λm_ ac w'=>∃(k:Nat),(k<=f.Args.length)/\(∀i,i<k->∀y,f.Args[i]?=some y->BA y=true)/\m_=f.Args.length-k/\Fits ac 27 [(1,(pv g4)),(3,(nv k))]/\St w ([bx g4 [(.string f.Rel),t]]) w') ?_ ?_))))))
 ·refine λac w' hf hs=>⟨_,0,?_,?_,Y,hf.wk Y,hs⟩
  ·omega
  ·intro i hi;omega
 ·rintro m_ ac w' ⟨k,hk,hi,rfl,hf,hs⟩;refine D.use ?_ hf hs;clear hf hs ac w';refine Cq (Sr (p1 Y (fl 0 BU B5 Y (dl AU Y (AE a) (Pe Y (Cd Y (λm=>?_) (λm=>?_)))))))
  ·refine Sk (Cq (Cb (Sr (fl 0 BU B5 Y (p1 Y ?_)))));obtain⟨a0,b⟩:=sI f.Args k;have v:a0.size<=9223372036854775807:=e.2 _ (List.mem_of_getElem? b);obtain⟨o,q,r⟩:=AC (n:=1) rfl a b;obtain rfl:o=[.string a0]:=r;refine q1 Y (AJ (l:=f.Args) (j:=k) AU Y Y Y (λw' hs=>(rA hs a)) Y (lS b)) (q1 Y (HI BK Y Y q Y) (qv P5 Y (λw' hs=>(FD ‹_›)) (Pe Y (CN Y (λc=>?_) (λc=>?_)))))
   ·refine Sr (Pe Y (Ct (Xq (Xr (Xr (Xq (Xr (Rb Y Y ?_))))))));unfold BI;rw[S6 (p:=BA) b c];simp
   ·refine Ck (Xb (Xt (Cr (p1 Y (ad (k+1) Y (Pe Y (λac w' hf hs=>⟨_,?_,k+1,?_,?_,Y,hf.wk Y,hs⟩)))))))
    ·omega
    ·omega
    ·refine AF hi ?_;intro y hy;obtain rfl:y=a0:=Option.some.inj (hy.symm.trans b);exact c
  ·refine Cx (Xx (Xx (Xe (Xt (Sr (fl 0 EH BK Y (qv M1 Y (λw' hs=>(EB e.1)) (p1 Y (gs 21 Y Y (λs=>?_) (λs=>?_))))))))))
   ·refine fl 0 BU B5 Y (dl AU Y (AE a) (P3 Y Y Y (Dx (Ct (Rb Y Y ?_)))));show((decide ((((f.Args.length:Nat):Int):Int)<=3)):Bool)=_;unfold BI;rw[IN (p:=BA) (λi h=>hi i (by omega))];simp_all;try omega
   ·refine n1 Y (n1 Y (n1 Y (n1 Y (P2 Y Y (Dx (Ct (Rb Y Y ?_)))))));unfold BI;rw[IN (p:=BA) (λi h=>hi i (by omega))];simp_all;try omega
set_option maxHeartbeats 4000000 in
theorem YV{w:World}{h:List Value}{x:Event}(i:Gd.rd w h x):Cy 107 [(.agg h.toArray)] w (Val w (.bool (AN x))):=by
 obtain⟨b,rfl,j⟩:=D2 i;have a7:=rM j;have a:=CC i;refine enter 48 Tryz.func107 Y Y Y (Sr (bX Y λg5=>?_));refine Pe Y (Dh ([bx g5 [(iv x.Kind),(.string x.Rule),(.string x.Fact.Rel),b]]) Y (Sr (q1 Y (Db EI Y Y (q:=2) Y) (fl 0 EH BK Y (q1 Y (DO Y Y Y) (p1 Y (EY 8 Y Y (λv=>?_) (λv=>?_))))))))
 ·refine q1 Y (Db EI Y Y (q:=2) Y) (fl 0 BU B5 Y (dl AU Y (AE j) (P3 Y Y Y (Dx (Cq (Sr (fl 0 M2 CJ Y (Dx (Cb (Cq (Sr (P2 Y Y (Dx (AH [1,3,16,17] Y (Ce Y (λk=>?_) (λk=>?_))))))))))))))))
  ·refine Sk (I4 Y (beq_iff_eq.2 k) (Sr (fl 0 DT BK Y (q1 Y (DO Y Y Y) (p1 Y (EY 23 Y Y (λy=>?_) (λy=>?_)))))))
   ·refine q1 Y (Db EI Y Y (q:=2) Y) (q1 Y (H2 (es:=[(.string x.Fact.Rel),b]) 0 C3 Y Y Y Y) (qv OP Y (λw' hs=>(EQ (rA hs a))) (P2 Y Y (Dx (Ct (Xq (Xr (Rb Y Y ?_))))))));show((BI x.Fact):Bool)=_;unfold AN;simp_all;try (first|omega|(rw[Bool.eq_iff_iff];simp))
   ·refine n1 Y (n1 Y (n1 Y (P2 Y Y (Dx (Ct (Xq (Xr (Rb Y Y ?_))))))));unfold AN;simp_all;try (first|omega|(rw[Bool.eq_iff_iff];simp))
  ·refine Cr (P2 Y Y (Dx (Ce Y (λl=>?_) (λl=>?_))))
   ·refine Sr (fl 0 DT BK Y (q1 Y (DO Y Y Y) (p1 Y (EY 23 Y Y (λm=>?_) (λm=>?_)))))
    ·refine q1 Y (Db EI Y Y (q:=2) Y) (q1 Y (H2 (es:=[(.string x.Fact.Rel),b]) 0 C3 Y Y Y Y) (qv OP Y (λw' hs=>(EQ (rA hs a))) (P2 Y Y (Dx (Ct (Xq (Xr (Rb Y Y ?_))))))));show((BI x.Fact):Bool)=_;unfold AN;simp_all;try (first|omega|(rw[Bool.eq_iff_iff];simp))
    ·refine n1 Y (n1 Y (n1 Y (P2 Y Y (Dx (Ct (Xq (Xr (Rb Y Y ?_))))))));unfold AN;simp_all;try (first|omega|(rw[Bool.eq_iff_iff];simp))
   ·refine Cq (Sr (P2 Y Y (Dx (Ce Y (λc=>?_) (λc=>?_)))))
    ·refine Sk (I4 Y (beq_iff_eq.2 c) (Sr (fl 0 DT BK Y (qv M0 Y (λw' hs=>EA) (p1 Y (gs 34 Y Y (λz=>?_) (λz=>?_)))))))
     ·refine P3 Y Y Y (Dx (Ct (Xq (Xr (Rb Y Y ?_)))));show(((((x.Fact.Args.length:Nat):Int):Int)==0):Bool)=_;unfold AN;simp_all;try (rw[Bool.eq_iff_iff];simp)
     ·refine n1 Y (P2 Y Y (Dx (Ct (Xq (Xr (Rb Y Y ?_))))));unfold AN;simp_all;try (first|omega|(rw[Bool.eq_iff_iff];simp))
    ·refine Cr (P2 Y Y (Dx (Ce Y (λn=>?_) (λn=>?_))))
     ·refine Sr (fl 0 DT BK Y (qv M0 Y (λw' hs=>EA) (p1 Y (gs 34 Y Y (λa0=>?_) (λa0=>?_)))))
      ·refine P3 Y Y Y (Dx (Ct (Xq (Xr (Rb Y Y ?_)))));show(((((x.Fact.Args.length:Nat):Int):Int)==0):Bool)=_;unfold AN;simp_all;try (rw[Bool.eq_iff_iff];simp)
      ·refine n1 Y (P2 Y Y (Dx (Ct (Xq (Xr (Rb Y Y ?_))))));unfold AN;simp_all;try (first|omega|(rw[Bool.eq_iff_iff];simp))
     ·refine Cq (Sr (P2 Y Y (Dx (Ce Y (λd=>?_) (λd=>?_)))))
      ·refine Sk (I4 Y (beq_iff_eq.2 d) (Sr (fl 0 DT BK Y (qv M0 Y (λw' hs=>EA) (p1 Y (gs 43 Y Y (λa1=>?_) (λa1=>?_)))))))
       ·refine q1 Y (Db EI Y Y (q:=2) Y) (q1 Y (H2 (es:=[(.string x.Fact.Rel),b]) 0 C3 Y Y Y Y) (qv OP Y (λw' hs=>(EQ (rA hs a))) (P2 Y Y (Dx (Ct (Xq (Xr (Rb Y Y ?_))))))));show((BI x.Fact):Bool)=_;unfold AN;simp_all;try (first|omega|(rw[Bool.eq_iff_iff];simp))
       ·refine n1 Y (n1 Y (n1 Y (P2 Y Y (Dx (Ct (Xq (Xr (Rb Y Y ?_))))))));unfold AN;simp_all;try (first|omega|(rw[Bool.eq_iff_iff];simp))
      ·refine Cr (P2 Y Y (Dx (Ce Y (λo=>?_) (λo=>?_))))
       ·refine Sr (fl 0 DT BK Y (qv M0 Y (λw' hs=>EA) (p1 Y (gs 43 Y Y (λa2=>?_) (λa2=>?_)))))
        ·refine q1 Y (Db EI Y Y (q:=2) Y) (q1 Y (H2 (es:=[(.string x.Fact.Rel),b]) 0 C3 Y Y Y Y) (qv OP Y (λw' hs=>(EQ (rA hs a))) (P2 Y Y (Dx (Ct (Xq (Xr (Rb Y Y ?_))))))));show((BI x.Fact):Bool)=_;unfold AN;simp_all;try (first|omega|(rw[Bool.eq_iff_iff];simp))
        ·refine n1 Y (n1 Y (n1 Y (P2 Y Y (Dx (Ct (Xq (Xr (Rb Y Y ?_))))))));unfold AN;simp_all;try (first|omega|(rw[Bool.eq_iff_iff];simp))
       ·refine Ck (Xb (Xt (Sr (Pe Y (Ct (Rb Y Y ?_))))));unfold AN;simp_all;try (first|omega|(rw[Bool.eq_iff_iff];simp))
 ·refine n1 Y (n1 Y (n1 Y (n1 Y (n1 Y (P2 Y Y (Dx (Cq (Sr (fl 0 M2 CJ Y (Dx (Cb (Cq (Sr (P2 Y Y (Dx (AH [1,3,16,17] Y (Ce Y (λe=>?_) (λe=>?_))))))))))))))))))
  ·refine Sk (I4 Y (beq_iff_eq.2 e) (Sr (fl 0 DT BK Y (q1 Y (DO Y Y Y) (p1 Y (EY 23 Y Y (λp=>?_) (λp=>?_)))))))
   ·refine q1 Y (Db EI Y Y (q:=2) Y) (q1 Y (H2 (es:=[(.string x.Fact.Rel),b]) 0 C3 Y Y Y Y) (qv OP Y (λw' hs=>(EQ (rA hs a))) (P2 Y Y (Dx (Ct (Xq (Xr (Rb Y Y ?_))))))));show((BI x.Fact):Bool)=_;unfold AN;simp_all;try (first|omega|(rw[Bool.eq_iff_iff];simp))
   ·refine n1 Y (n1 Y (n1 Y (P2 Y Y (Dx (Ct (Xq (Xr (Rb Y Y ?_))))))));unfold AN;simp_all;try (first|omega|(rw[Bool.eq_iff_iff];simp))
  ·refine Cr (P2 Y Y (Dx (Ce Y (λr=>?_) (λr=>?_))))
   ·refine Sr (fl 0 DT BK Y (q1 Y (DO Y Y Y) (p1 Y (EY 23 Y Y (λs=>?_) (λs=>?_)))))
    ·refine q1 Y (Db EI Y Y (q:=2) Y) (q1 Y (H2 (es:=[(.string x.Fact.Rel),b]) 0 C3 Y Y Y Y) (qv OP Y (λw' hs=>(EQ (rA hs a))) (P2 Y Y (Dx (Ct (Xq (Xr (Rb Y Y ?_))))))));show((BI x.Fact):Bool)=_;unfold AN;simp_all;try (first|omega|(rw[Bool.eq_iff_iff];simp))
    ·refine n1 Y (n1 Y (n1 Y (P2 Y Y (Dx (Ct (Xq (Xr (Rb Y Y ?_))))))));unfold AN;simp_all;try (first|omega|(rw[Bool.eq_iff_iff];simp))
   ·refine Cq (Sr (P2 Y Y (Dx (Ce Y (λf=>?_) (λf=>?_)))))
    ·refine Sk (I4 Y (beq_iff_eq.2 f) (Sr (fl 0 DT BK Y (qv M0 Y (λw' hs=>EA) (p1 Y (gs 34 Y Y (λa3=>?_) (λa3=>?_)))))))
     ·refine P3 Y Y Y (Dx (Ct (Xq (Xr (Rb Y Y ?_)))));unfold AN;simp_all;try (first|omega|(rw[Bool.eq_iff_iff];simp))
     ·refine n1 Y (P2 Y Y (Dx (Ct (Xq (Xr (Rb Y Y ?_))))));unfold AN;simp_all;try (first|omega|(rw[Bool.eq_iff_iff];simp))
    ·refine Cr (P2 Y Y (Dx (Ce Y (λt=>?_) (λt=>?_))))
     ·refine Sr (fl 0 DT BK Y (qv M0 Y (λw' hs=>EA) (p1 Y (gs 34 Y Y (λa4=>?_) (λa4=>?_)))))
      ·refine P3 Y Y Y (Dx (Ct (Xq (Xr (Rb Y Y ?_)))));unfold AN;simp_all;try (first|omega|(rw[Bool.eq_iff_iff];simp))
      ·refine n1 Y (P2 Y Y (Dx (Ct (Xq (Xr (Rb Y Y ?_))))));unfold AN;simp_all;try (first|omega|(rw[Bool.eq_iff_iff];simp))
     ·refine Cq (Sr (P2 Y Y (Dx (Ce Y (λg=>?_) (λg=>?_)))))
      ·refine Sk (I4 Y (beq_iff_eq.2 g) (Sr (fl 0 DT BK Y (qv M0 Y (λw' hs=>EA) (p1 Y (gs 43 Y Y (λa5=>?_) (λa5=>?_)))))))
       ·refine q1 Y (Db EI Y Y (q:=2) Y) (q1 Y (H2 (es:=[(.string x.Fact.Rel),b]) 0 C3 Y Y Y Y) (qv OP Y (λw' hs=>(EQ (rA hs a))) (P2 Y Y (Dx (Ct (Xq (Xr (Rb Y Y ?_))))))));show((BI x.Fact):Bool)=_;unfold AN;simp_all;try (first|omega|(rw[Bool.eq_iff_iff];simp))
       ·refine n1 Y (n1 Y (n1 Y (P2 Y Y (Dx (Ct (Xq (Xr (Rb Y Y ?_))))))));unfold AN;simp_all;try (first|omega|(rw[Bool.eq_iff_iff];simp))
      ·refine Cr (P2 Y Y (Dx (Ce Y (λu=>?_) (λu=>?_))))
       ·refine Sr (fl 0 DT BK Y (qv M0 Y (λw' hs=>EA) (p1 Y (gs 43 Y Y (λa6=>?_) (λa6=>?_)))))
        ·refine q1 Y (Db EI Y Y (q:=2) Y) (q1 Y (H2 (es:=[(.string x.Fact.Rel),b]) 0 C3 Y Y Y Y) (qv OP Y (λw' hs=>(EQ (rA hs a))) (P2 Y Y (Dx (Ct (Xq (Xr (Rb Y Y ?_))))))));show((BI x.Fact):Bool)=_;unfold AN;simp_all;try (first|omega|(rw[Bool.eq_iff_iff];simp))
        ·refine n1 Y (n1 Y (n1 Y (P2 Y Y (Dx (Ct (Xq (Xr (Rb Y Y ?_))))))));unfold AN;simp_all;try (first|omega|(rw[Bool.eq_iff_iff];simp))
       ·refine Ck (Xb (Xt (Sr (Pe Y (Ct (Rb Y Y ?_))))));unfold AN;simp_all;try (first|omega|(rw[Bool.eq_iff_iff];simp))
set_option maxHeartbeats 4000000 in
theorem YW{w:World}{i:List Value}{x:Event}(j:Gd.rd w i x)(a:wK x):Cy 93 [(.agg i.toArray)] w (Val w (.bool (AN x))):=by
 obtain⟨c,rfl,k⟩:=D2 j;have a8:=rM k;have b:=CC j;refine enter 48 Tryz.func93 Y Y Y (Sr (bX Y λg5=>?_));refine Pe Y (Dh ([bx g5 [(iv x.Kind),(.string x.Rule),(.string x.Fact.Rel),c]]) Y (Sr (q1 Y (Db EI Y Y (q:=2) Y) (fl 0 EH BK Y (q1 Y (DO Y Y Y) (p1 Y (EY 8 Y Y (λy=>?_) (λy=>?_))))))))
 ·refine q1 Y (Db EI Y Y (q:=2) Y) (fl 0 BU B5 Y (dl AU Y (AE k) (P3 Y Y Y (Dx (Cq (Sr (fl 0 M2 CJ Y (Dx (Cb (Cq (Sr (P2 Y Y (Dx (AH [1,3,16,17] Y (Ce Y (λl=>?_) (λl=>?_))))))))))))))))
  ·refine Sk (I4 Y (beq_iff_eq.2 l) (Sr (fl 0 DT BK Y (q1 Y (DO Y Y Y) (p1 Y (EY 23 Y Y (λz=>?_) (λz=>?_)))))))
   ·refine q1 Y (Db EI Y Y (q:=2) Y) (q1 Y (H2 (es:=[(.string x.Fact.Rel),c]) 0 C3 Y Y Y Y) (qv OQ Y (λw' hs=>(ER (rA hs b) a.2.2)) (P2 Y Y (Dx (Ct (Xq (Xr (Rb Y Y ?_))))))));show((BI x.Fact):Bool)=_;unfold AN;simp_all;try (first|omega|(rw[Bool.eq_iff_iff];simp))
   ·refine n1 Y (n1 Y (n1 Y (P2 Y Y (Dx (Ct (Xq (Xr (Rb Y Y ?_))))))));unfold AN;simp_all;try (first|omega|(rw[Bool.eq_iff_iff];simp))
  ·refine Cr (P2 Y Y (Dx (Ce Y (λm=>?_) (λm=>?_))))
   ·refine Sr (fl 0 DT BK Y (q1 Y (DO Y Y Y) (p1 Y (EY 23 Y Y (λn=>?_) (λn=>?_)))))
    ·refine q1 Y (Db EI Y Y (q:=2) Y) (q1 Y (H2 (es:=[(.string x.Fact.Rel),c]) 0 C3 Y Y Y Y) (qv OQ Y (λw' hs=>(ER (rA hs b) a.2.2)) (P2 Y Y (Dx (Ct (Xq (Xr (Rb Y Y ?_))))))));show((BI x.Fact):Bool)=_;unfold AN;simp_all;try (first|omega|(rw[Bool.eq_iff_iff];simp))
    ·refine n1 Y (n1 Y (n1 Y (P2 Y Y (Dx (Ct (Xq (Xr (Rb Y Y ?_))))))));unfold AN;simp_all;try (first|omega|(rw[Bool.eq_iff_iff];simp))
   ·refine Cq (Sr (P2 Y Y (Dx (Ce Y (λd=>?_) (λd=>?_)))))
    ·refine Sk (I4 Y (beq_iff_eq.2 d) (Sr (fl 0 DT BK Y (qv M1 Y (λw' hs=>(EB a.2.1)) (p1 Y (gs 34 Y Y (λa0=>?_) (λa0=>?_)))))))
     ·refine P3 Y Y Y (Dx (Ct (Xq (Xr (Rb Y Y ?_)))));show(((((x.Fact.Args.length:Nat):Int):Int)==0):Bool)=_;unfold AN;simp_all;try (rw[Bool.eq_iff_iff];simp)
     ·refine n1 Y (P2 Y Y (Dx (Ct (Xq (Xr (Rb Y Y ?_))))));unfold AN;simp_all;try (first|omega|(rw[Bool.eq_iff_iff];simp))
    ·refine Cr (P2 Y Y (Dx (Ce Y (λo=>?_) (λo=>?_))))
     ·refine Sr (fl 0 DT BK Y (qv M1 Y (λw' hs=>(EB a.2.1)) (p1 Y (gs 34 Y Y (λa1=>?_) (λa1=>?_)))))
      ·refine P3 Y Y Y (Dx (Ct (Xq (Xr (Rb Y Y ?_)))));show(((((x.Fact.Args.length:Nat):Int):Int)==0):Bool)=_;unfold AN;simp_all;try (rw[Bool.eq_iff_iff];simp)
      ·refine n1 Y (P2 Y Y (Dx (Ct (Xq (Xr (Rb Y Y ?_))))));unfold AN;simp_all;try (first|omega|(rw[Bool.eq_iff_iff];simp))
     ·refine Cq (Sr (P2 Y Y (Dx (Ce Y (λe=>?_) (λe=>?_)))))
      ·refine Sk (I4 Y (beq_iff_eq.2 e) (Sr (fl 0 DT BK Y (qv M1 Y (λw' hs=>(EB a.2.1)) (p1 Y (gs 43 Y Y (λa2=>?_) (λa2=>?_)))))))
       ·refine q1 Y (Db EI Y Y (q:=2) Y) (q1 Y (H2 (es:=[(.string x.Fact.Rel),c]) 0 C3 Y Y Y Y) (qv OQ Y (λw' hs=>(ER (rA hs b) a.2.2)) (P2 Y Y (Dx (Ct (Xq (Xr (Rb Y Y ?_))))))));show((BI x.Fact):Bool)=_;unfold AN;simp_all;try (first|omega|(rw[Bool.eq_iff_iff];simp))
       ·refine n1 Y (n1 Y (n1 Y (P2 Y Y (Dx (Ct (Xq (Xr (Rb Y Y ?_))))))));unfold AN;simp_all;try (first|omega|(rw[Bool.eq_iff_iff];simp))
      ·refine Cr (P2 Y Y (Dx (Ce Y (λp=>?_) (λp=>?_))))
       ·refine Sr (fl 0 DT BK Y (qv M1 Y (λw' hs=>(EB a.2.1)) (p1 Y (gs 43 Y Y (λa3=>?_) (λa3=>?_)))))
        ·refine q1 Y (Db EI Y Y (q:=2) Y) (q1 Y (H2 (es:=[(.string x.Fact.Rel),c]) 0 C3 Y Y Y Y) (qv OQ Y (λw' hs=>(ER (rA hs b) a.2.2)) (P2 Y Y (Dx (Ct (Xq (Xr (Rb Y Y ?_))))))));show((BI x.Fact):Bool)=_;unfold AN;simp_all;try (first|omega|(rw[Bool.eq_iff_iff];simp))
        ·refine n1 Y (n1 Y (n1 Y (P2 Y Y (Dx (Ct (Xq (Xr (Rb Y Y ?_))))))));unfold AN;simp_all;try (first|omega|(rw[Bool.eq_iff_iff];simp))
       ·refine Ck (Xb (Xt (Sr (Pe Y (Ct (Rb Y Y ?_))))));unfold AN;simp_all;try (first|omega|(rw[Bool.eq_iff_iff];simp))
 ·refine n1 Y (n1 Y (n1 Y (n1 Y (n1 Y (P2 Y Y (Dx (Cq (Sr (fl 0 M2 CJ Y (Dx (Cb (Cq (Sr (P2 Y Y (Dx (AH [1,3,16,17] Y (Ce Y (λf=>?_) (λf=>?_))))))))))))))))))
  ·refine Sk (I4 Y (beq_iff_eq.2 f) (Sr (fl 0 DT BK Y (q1 Y (DO Y Y Y) (p1 Y (EY 23 Y Y (λr=>?_) (λr=>?_)))))))
   ·refine q1 Y (Db EI Y Y (q:=2) Y) (q1 Y (H2 (es:=[(.string x.Fact.Rel),c]) 0 C3 Y Y Y Y) (qv OQ Y (λw' hs=>(ER (rA hs b) a.2.2)) (P2 Y Y (Dx (Ct (Xq (Xr (Rb Y Y ?_))))))));show((BI x.Fact):Bool)=_;unfold AN;simp_all;try (first|omega|(rw[Bool.eq_iff_iff];simp))
   ·refine n1 Y (n1 Y (n1 Y (P2 Y Y (Dx (Ct (Xq (Xr (Rb Y Y ?_))))))));unfold AN;simp_all;try (first|omega|(rw[Bool.eq_iff_iff];simp))
  ·refine Cr (P2 Y Y (Dx (Ce Y (λs=>?_) (λs=>?_))))
   ·refine Sr (fl 0 DT BK Y (q1 Y (DO Y Y Y) (p1 Y (EY 23 Y Y (λt=>?_) (λt=>?_)))))
    ·refine q1 Y (Db EI Y Y (q:=2) Y) (q1 Y (H2 (es:=[(.string x.Fact.Rel),c]) 0 C3 Y Y Y Y) (qv OQ Y (λw' hs=>(ER (rA hs b) a.2.2)) (P2 Y Y (Dx (Ct (Xq (Xr (Rb Y Y ?_))))))));show((BI x.Fact):Bool)=_;unfold AN;simp_all;try (first|omega|(rw[Bool.eq_iff_iff];simp))
    ·refine n1 Y (n1 Y (n1 Y (P2 Y Y (Dx (Ct (Xq (Xr (Rb Y Y ?_))))))));unfold AN;simp_all;try (first|omega|(rw[Bool.eq_iff_iff];simp))
   ·refine Cq (Sr (P2 Y Y (Dx (Ce Y (λg=>?_) (λg=>?_)))))
    ·refine Sk (I4 Y (beq_iff_eq.2 g) (Sr (fl 0 DT BK Y (qv M1 Y (λw' hs=>(EB a.2.1)) (p1 Y (gs 34 Y Y (λa4=>?_) (λa4=>?_)))))))
     ·refine P3 Y Y Y (Dx (Ct (Xq (Xr (Rb Y Y ?_)))));unfold AN;simp_all;try (first|omega|(rw[Bool.eq_iff_iff];simp))
     ·refine n1 Y (P2 Y Y (Dx (Ct (Xq (Xr (Rb Y Y ?_))))));unfold AN;simp_all;try (first|omega|(rw[Bool.eq_iff_iff];simp))
    ·refine Cr (P2 Y Y (Dx (Ce Y (λu=>?_) (λu=>?_))))
     ·refine Sr (fl 0 DT BK Y (qv M1 Y (λw' hs=>(EB a.2.1)) (p1 Y (gs 34 Y Y (λa5=>?_) (λa5=>?_)))))
      ·refine P3 Y Y Y (Dx (Ct (Xq (Xr (Rb Y Y ?_)))));unfold AN;simp_all;try (first|omega|(rw[Bool.eq_iff_iff];simp))
      ·refine n1 Y (P2 Y Y (Dx (Ct (Xq (Xr (Rb Y Y ?_))))));unfold AN;simp_all;try (first|omega|(rw[Bool.eq_iff_iff];simp))
     ·refine Cq (Sr (P2 Y Y (Dx (Ce Y (λh=>?_) (λh=>?_)))))
      ·refine Sk (I4 Y (beq_iff_eq.2 h) (Sr (fl 0 DT BK Y (qv M1 Y (λw' hs=>(EB a.2.1)) (p1 Y (gs 43 Y Y (λa6=>?_) (λa6=>?_)))))))
       ·refine q1 Y (Db EI Y Y (q:=2) Y) (q1 Y (H2 (es:=[(.string x.Fact.Rel),c]) 0 C3 Y Y Y Y) (qv OQ Y (λw' hs=>(ER (rA hs b) a.2.2)) (P2 Y Y (Dx (Ct (Xq (Xr (Rb Y Y ?_))))))));show((BI x.Fact):Bool)=_;unfold AN;simp_all;try (first|omega|(rw[Bool.eq_iff_iff];simp))
       ·refine n1 Y (n1 Y (n1 Y (P2 Y Y (Dx (Ct (Xq (Xr (Rb Y Y ?_))))))));unfold AN;simp_all;try (first|omega|(rw[Bool.eq_iff_iff];simp))
      ·refine Cr (P2 Y Y (Dx (Ce Y (λv=>?_) (λv=>?_))))
       ·refine Sr (fl 0 DT BK Y (qv M1 Y (λw' hs=>(EB a.2.1)) (p1 Y (gs 43 Y Y (λa7=>?_) (λa7=>?_)))))
        ·refine q1 Y (Db EI Y Y (q:=2) Y) (q1 Y (H2 (es:=[(.string x.Fact.Rel),c]) 0 C3 Y Y Y Y) (qv OQ Y (λw' hs=>(ER (rA hs b) a.2.2)) (P2 Y Y (Dx (Ct (Xq (Xr (Rb Y Y ?_))))))));show((BI x.Fact):Bool)=_;unfold AN;simp_all;try (first|omega|(rw[Bool.eq_iff_iff];simp))
        ·refine n1 Y (n1 Y (n1 Y (P2 Y Y (Dx (Ct (Xq (Xr (Rb Y Y ?_))))))));unfold AN;simp_all;try (first|omega|(rw[Bool.eq_iff_iff];simp))
       ·refine Ck (Xb (Xt (Sr (Pe Y (Ct (Rb Y Y ?_))))));unfold AN;simp_all;try (first|omega|(rw[Bool.eq_iff_iff];simp))
theorem NA{w:World}{d:Value}{a:(List ByteArray)}{left:Int}(b:Gd.rd w [d] a)(h0:0<=left)(h1:left<=1048576)(p:A1i a):Cy 181 [d,(iv left)] w (Val w (iv (ED (M9 a) left))):=by
 have q:=rM b;refine enter 28 Tryz.func181 Y Y Y (Sr (Pe Y (Sr (P2 Y Y (dl AU Y (AE b) (q1 Y (B3 Y Y Y Y (by omega)) (Pe Y (Cq (Sr (P2 Y Y (Dx (Cd Y (λe=>?_) (λe=>?_)))))))))))))
 ·refine Sr (Pe Y (Ct (Xr (Ri Y Y ?_))));show((-1):Int)=_;refine(F8 ?_).symm;unfold M9;omega
 ·refine Sk (Cq (Sr (Pe Y (Cb (Cl (λm_ ac w'=>∃(k:Nat),∃(lf:Int),(k<=a.length)/\(0<=lf/\lf=left-a.length-((a.take k).map (·.size)).sum)/\m_=a.length-k/\Fits ac 28 [(0,d),(1,(iv lf)),(5,(nv k))]/\St w ([]) w') ?_ ?_)))))
  ·refine λac w' hf hs=>⟨_,0,(left-((a.length:Nat):Int)),?_,?_,Y,hf.wk Y,hs⟩
   ·omega
   ·simp;omega
  ·rintro m_ ac w' ⟨k,lf,hk,hl,rfl,hf,hs⟩;refine D.use ?_ hf hs;clear hf hs ac w';have ht:=QA a k;refine Cq (Sr (P2 Y Y (dl AU Y (AE b) (Pe Y (Cd Y (λf=>?_) (λf=>?_))))))
   ·refine Sk (Cq (Cb (Sr (P3 Y Y Y ?_))));obtain⟨g,c⟩:=sI a k;have r:g.size<=9223372036854775807:=p _ (List.mem_of_getElem? c);obtain⟨h,i,m⟩:=AC (n:=1) rfl b c;obtain rfl:h=[.string g]:=m;refine q1 Y (AJ (l:=a) (j:=k) AU Y Y Y (λw' hs=>(rA hs b)) Y (lS c)) (q1 Y (HI BK Y Y i Y) (q1 Y (FZ F5 Y Y) (q1 Y (B3 Y Y Y Y (by omega)) (Pe Y (Sr (P2 Y Y (Dx (Cd Y (λo=>?_) (λo=>?_)))))))))
    ·refine Sr (Pe Y (Ct (Xq (Xr (Xr (Xq (Xr (Ri Y Y ?_))))))));show((-1):Int)=_;refine(F8 ?_).symm;have:=W3 (l:=a) c;have:=QA a (k+1);unfold M9;omega
    ·refine Ck (Xb (Xt (Cr (p1 Y (ad (k+1) Y (Pe Y (λac w' hf hs=>⟨_,?_,k+1,(lf-((g.size:Nat):Int)),?_,?_,Y,hf.wk Y,hs⟩)))))))
     ·omega
     ·omega
     ·have hst:=W3 (l:=a) (k:=k) ‹_›;rw[hst];omega
   ·refine Cx (Xx (Xx (Xe (Xt (Sr (P2 Y Y (Dx (Ct (Ri Y Y ?_)))))))));show(lf:Int)=_;rw[KV];all_goals (unfold M9;rw[List.take_of_length_le (by omega)] at hl;omega)
theorem SF{w:World}{b:List Value}{a:Fact}{left:Int}(e:Gd.rd w b a)(h0:0<=left)(h1:left<=1048576)(g:P9 a):Cy 125 [(.agg b.toArray),(iv left)] w (Val w (iv (ED (F9 a) left))):=by
 obtain⟨i,rfl,c⟩:=AS e;have j:=rM c;have k:a.Rel.size<=9223372036854775807:=g.1;refine enter 19 Tryz.func125 Y Y Y (Sr (bX Y λg4=>?_));refine Pe Y (Dh ([bx g4 [(.string a.Rel),i]]) Y (Sr (p1 Y (fl 0 iC BK Y (q1 Y (FZ F5 Y Y) (q1 Y (B3 Y Y Y Y (by omega)) (Pe Y (Cq (Sr (P2 Y Y (Dx (Cd Y (λf=>?_) (λf=>?_)))))))))))))
 ·refine Sr (Pe Y (Ct (Xr (Ri Y Y ?_))));show((-1):Int)=_;unfold F9 ED at*;repeat (split at* <;>try omega)
 ·refine Sk (Sr (fl 0 iD B5 Y (p1 Y (qv zL Y (λw' hs=>(NA (rA hs c) (by omega) (by omega) g.2)) (Pe Y (Cq (Sr (P2 Y Y (Dx (AH [1,17] Y (AG [] Y (Cd Y (λd=>?_) (λd=>?_)))))))))))))
  ·refine Sr (Pe Y (Ct (Xr (Ri Y Y ?_))));show((-1):Int)=_;unfold F9 ED at*;repeat (split at* <;>try omega)
  ·have h:=EE d;refine Sk (Sr (P2 Y Y (Dx (Ct (Ri Y Y ?_)))));show((ED (M9 a.Args) (left-((a.Rel.size:Nat):Int))):Int)=_;unfold F9 ED at*;repeat (split at* <;>try omega)
theorem YX{w:World}{b:List Value}{a:Event}{left:Int}(c:Gd.rd w b a)(h0:0<=left)(h1:left<=1048576)(h:wK a):Cy 60 [(.agg b.toArray),(iv left)] w (Val w (iv (ED (L9 a) left))):=by
 obtain⟨i,rfl,e⟩:=D2 c;have k:=rM e;have f:=CC c;have l:a.Rule.size<=9223372036854775807:=h.2.1;refine enter 19 Tryz.func60 Y Y Y (Sr (bX Y λg5=>?_));refine Pe Y (Dh ([bx g5 [(iv a.Kind),(.string a.Rule),(.string a.Fact.Rel),i]]) Y (Sr (p1 Y (fl 0 iE BK Y (q1 Y (FZ F5 Y Y) (q1 Y (B3 Y Y Y Y (by omega)) (Pe Y (Cq (Sr (P2 Y Y (Dx (Cd Y (λg=>?_) (λg=>?_)))))))))))))
 ·refine Sr (Pe Y (Ct (Xr (Ri Y Y ?_))));show((-1):Int)=_;unfold L9 ED at*;repeat (split at* <;>try omega)
 ·refine Sk (Sr (q1 Y (Db iF Y Y (q:=2) Y) (q1 Y (H2 (es:=[(.string a.Fact.Rel),i]) 0 iG Y Y Y Y) (p1 Y (qv zM Y (λw' hs=>(SF (rA hs f) (by omega) (by omega) h.2.2)) (Pe Y (Cq (Sr (P2 Y Y (Dx (AH [1,17] Y (AG [] Y (Cd Y (λd=>?_) (λd=>?_))))))))))))))
  ·refine Sr (Pe Y (Ct (Xr (Ri Y Y ?_))));show((-1):Int)=_;unfold L9 ED at*;repeat (split at* <;>try omega)
  ·have j:=EE d;refine Sk (Sr (P2 Y Y (Dx (Ct (Ri Y Y ?_)))));show((ED (F9 a.Fact) (left-((a.Rule.size:Nat):Int))):Int)=_;unfold L9 ED at*;repeat (split at* <;>try omega)
theorem NB{w:World}{d:Value}{a:(List ByteArray)}(b:Gd.rd w [d] a)(p:a.length<=1048576):Cy 185 [d] w (HH w (a:List ByteArray)):=by
 have o:=rM b;refine enter 22 Tryz.func185 Y Y Y (Sr (Pe Y (Sr (p1 Y (dl AU Y (AE b) (li Y (A2z (α:=ByteArray) (z:=⟨#[]⟩) AU QZ Y Y Y Y (by omega) (by omega) λv2=>?_)))))));refine Pe Y (Dh ([ov [v2] (List.replicate a.length (⟨#[]⟩):(List ByteArray))]) Y (Cq (Sr (Pe Y (Cb (Cl (λm_ ac w'=>∃(k:Nat),∃(v:Value),(k<=a.length)/\m_=a.length-k/\Fits ac 22 [(0,d),(3,v),(4,(nv k))]/\St w ([ov [v] (cp a ⟨#[]⟩ k:(List ByteArray))]) w') ?_ ?_))))))
 ·refine A3 0 Y (show(List.replicate a.length (⟨#[]⟩):(List ByteArray))=cp a ⟨#[]⟩ 0 from by rw[KW]) (λac w' hf hs=>⟨_,0,v2,?_,Y,hf.wk Y,hs⟩)
  ·omega
 ·rintro m_ ac w' ⟨k,v,hk,rfl,hf,hs⟩;refine D.use ?_ hf hs;clear hf hs ac w';have hcl:=M5 a ⟨#[]⟩ k hk;refine Cq (Sr (P2 Y Y (dl AU Y (AE b) (Pe Y (Dh ([_]) Y (Cd Y (λg=>?_) (λg=>?_)))))))
  ·refine Sk (Cq (Cb (Cr (P3 Y Y Y (p1 Y ?_)))));obtain⟨f,e⟩:=sI a k;obtain⟨h,i,m⟩:=AC (n:=1) rfl b e;obtain rfl:h=[.string f]:=m;refine q1 Y (AJ (l:=a) (j:=k) AU Y Y Y (λw' hs=>(rA hs b)) Y (lS e)) (q1 Y (HI BK Y Y i Y) ?_);obtain⟨q,c⟩:=sI (cp a ⟨#[]⟩ k) k;refine q1 Y (AJ (l:=(cp a ⟨#[]⟩ k)) (j:=k) AU Y Y Y (λw' hs=>(rO (k:=0) hs Y)) Y (lS c)) (li Y (so (α:=ByteArray) (z:=f) 0 VI Y Y Y Y Y (lS c) ?_));refine De (Xb (Xt (Dh ([ov [v] ((cp a ⟨#[]⟩ k).set k f:(List ByteArray))]) Y (Cr (p1 Y (ad (k+1) Y (Pe Y (A3 0 Y (show((cp a ⟨#[]⟩ k).set k f:(List ByteArray))=cp a ⟨#[]⟩ (k+1) from by rw[M6 ‹_›]) (λac w' hf hs=>⟨_,?_,k+1,v,?_,Y,hf.wk Y,hs⟩)))))))))
   ·omega
   ·omega
  ·refine Cx (Xx (Xx (Xe (Xt (Sr (P2 Y Y (Dx (Ct (FV Y Y λw' hs=>A7 (k:=0) hs Y ?_)))))))));show cp a ⟨#[]⟩ k=a;exact KX (by omega)
theorem SG{w:World}{d:List Value}{a:Fact}(f:Gd.rd w d a)(g:F9 a<=1048576):Cy 131 [(.agg d.toArray)] w (HH w (a:Fact)):=by
 obtain⟨h,rfl,e⟩:=AS f;have i:=rM e;unfold F9 M9 at g;refine enter 12 Tryz.func131 Y Y Y (Sr (bX Y λg4=>?_));refine aL I6 Y λg5=>?_
 refine Dx (Dh ([bx g5 [(.string ⟨#[]⟩),(.slice none 0 0)],bx g4 [(.string a.Rel),h]]) Y (Sr (aL I6 Y λg6=>?_)));refine Dx (Dh ([bx g6 [(.string ⟨#[]⟩),(.slice none 0 0)],_,_]) Y (Sr (fl 2 iC BK Y (q1 Y (Db EH Y Y (q:=0) Y) (li Y (AZ (vs:=[(.string a.Rel)]) (cs':=[(.string a.Rel),(.slice none 0 0)]) 0 VI Y Y Y Y Y Y (AB Y BR) (by simp) Y ?_))))));refine Dx (Dh ([bx g6 [(.string a.Rel),(.slice none 0 0)],_,_]) Y (Sr (fl 2 iD B5 Y (ql zN Y (λw' hs=>(NB (rA hs e) (by omega))) λc=>?_))));refine q1 Y (Db BU Y Y (q:=1) Y) (Dp (λw' hs=>CZ (k:=0) hs Y) ?_);intro b;refine li Y (AZ (vs:=[c]) (cs':=[(.string a.Rel),c]) 1 A3D Y Y Y Y Y (AO b) (AB b BR) (by simp) Y ?_);refine Dx (Dh ([ov [c] (a.Args:(List ByteArray)),bx g6 [(.string a.Rel),c],_,_]) Y (Sr (q1 Y (C9 1 C3 Y Y Y) (li Y (AZ (vs:=[(.string a.Rel),c]) (cs':=[(.string a.Rel),c]) 2 TP Y Y Y Y Y Y (AB Y (AB b BR)) (by simp) Y ?_)))));refine Dx (Ct (S4 (r:=(a:Fact)) (eW 2 C3 Y Y Y λw' hs=>A7 (k:=0) hs Y ?_)));show(a:Fact)=a;rfl
theorem YY{w:World}{c:List Value}{a:Event}(d:Gd.rd w c a)(h:L9 a<=1048576):Cy 65 [(.agg c.toArray)] w (HH w (a:Event)):=by
 obtain⟨g,rfl,e⟩:=D2 d;have i:=rM e;have f:=CC d;unfold L9 at h;refine enter 15 Tryz.func65 Y Y Y (Sr (bX Y λg5=>?_));refine aL vU Y λg6=>?_
 refine Dx (Dh ([bx g6 [(iv 0),(.string ⟨#[]⟩),(.string ⟨#[]⟩),(.slice none 0 0)],bx g5 [(iv a.Kind),(.string a.Rule),(.string a.Fact.Rel),g]]) Y (Sr (aL vU Y λg7=>?_)));refine Dx (Dh ([bx g7 [(iv 0),(.string ⟨#[]⟩),(.string ⟨#[]⟩),(.slice none 0 0)],_,_]) Y (Sr (fl 2 vV CJ Y (q1 Y (Db M2 Y Y (q:=0) Y) (li Y (AZ (vs:=[(iv a.Kind)]) (cs':=[(iv a.Kind),(.string ⟨#[]⟩),(.string ⟨#[]⟩),(.slice none 0 0)]) 0 PC Y Y Y Y Y Y (AB Y BR) (by simp) Y ?_))))));refine Dx (Dh ([bx g7 [(iv a.Kind),(.string ⟨#[]⟩),(.string ⟨#[]⟩),(.slice none 0 0)],_,_]) Y (Sr (fl 2 iE BK Y (q1 Y (Db DT Y Y (q:=1) Y) (li Y (AZ (vs:=[(.string a.Rule)]) (cs':=[(iv a.Kind),(.string a.Rule),(.string ⟨#[]⟩),(.slice none 0 0)]) 0 VI Y Y Y Y Y Y (AB Y BR) (by simp) Y ?_))))));refine Dx (Dh ([bx g7 [(iv a.Kind),(.string a.Rule),(.string ⟨#[]⟩),(.slice none 0 0)],_,_]) Y (Sr (q1 Y (Db iF Y Y (q:=2) Y) (q1 Y (H2 (es:=[(.string a.Fact.Rel),g]) 2 iG Y Y Y Y) (qs Y zO Y (λw' hs=>(SG (rA hs f) (by omega))) λj=>?_)))));refine Dp (λw' hs=>EZ (rO (k:=0) hs Y)) ?_;rintro⟨v9,rfl,b⟩;refine q1 Y (Db EI Y Y (q:=2) Y) (li Y (AZ (vs:=[(.string a.Fact.Rel),v9]) (cs':=[(iv a.Kind),(.string a.Rule),(.string a.Fact.Rel),v9]) 1 TP Y Y Y Y Y Y (AB Y (AB b BR)) (by simp) Y ?_));refine Dx (Dh ([ov [(.string a.Fact.Rel),v9] (a.Fact:Fact),bx g7 [(iv a.Kind),(.string a.Rule),(.string a.Fact.Rel),v9],_,_]) Y (Sr (q1 Y (C9 1 fM Y Y Y) (li Y (AZ (vs:=[(iv a.Kind),(.string a.Rule),(.string a.Fact.Rel),v9]) (cs':=[(iv a.Kind),(.string a.Rule),(.string a.Fact.Rel),v9]) 2 A1Q Y Y Y Y Y Y (AB Y (AB Y (AB Y (AB b BR)))) (by simp) Y ?_)))));refine Dx (Ct (BB (α:=ByteArray) (β:=(List ByteArray)) (c1:=[(.string a.Fact.Rel)]) (c2:=[v9]) (x:=a.Fact.Rel) (y:=(a.Fact.Args)) Y Y (BZ [] 1 Y (aS (r:=(a:Event)) (eW 2 fM Y Y Y λw' hs=>A7 (k:=0) hs Y ?_)))));show(a:Event)=a;rfl
theorem NC{w:World}{g:Value}{a:(List ByteArray)}{m:Value}{b:(List ByteArray)}(c:Gd.rd w [g] a)(d:Gd.rd w [m] b):Cy 188 [g,m] w (Val w (.bool (decide (a=b)))):=by
 have z:=rM c;have a0:=rM d;refine enter 26 Tryz.func188 Y Y Y (Sr (Pe Y (Cq (Sr (p1 Y (dl AU Y (AE c) (p1 Y (dl AU Y (AE d) (Pe Y (Cn Y (λt=>?_) (λt=>?_)))))))))))
 ·refine Sr (Pe Y (Ct (Xr (Rb Y Y ?_))));simp;intro e;subst e;simp_all
 ·refine Sk (Cq (Sr (Pe Y (Cb (Cl (λm_ ac w'=>∃(k:Nat),(k<=a.length)/\(∀i,i<k->a[i]?=b[i]?)/\m_=a.length-k/\Fits ac 26 [(0,g),(1,m),(5,(nv k))]/\St w ([]) w') ?_ ?_)))))
  ·refine λac w' hf hs=>⟨_,0,?_,?_,Y,hf.wk Y,hs⟩
   ·omega
   ·intro i hi;omega
  ·rintro m_ ac w' ⟨k,hk,hi,rfl,hf,hs⟩;refine D.use ?_ hf hs;clear hf hs ac w';refine Cq (Sr (P2 Y Y (dl AU Y (AE c) (Pe Y (Cd Y (λu=>?_) (λu=>?_))))))
   ·refine Sk (Cq (Cb (Cq (A0 mixed [] (by kernel_rfl) (tK 7 [0,1] Y ?_)))));obtain⟨x5,o⟩:=sI a k;obtain⟨v,at8,x⟩:=AC (n:=1) rfl c o;obtain rfl:v=[.string x5]:=x;refine Tk 2 Y Y (AJ (l:=a) (j:=k) AU Y Y Y (λw' hs=>(rA hs c)) Y (lS o)) (Tk 3 Y Y (HI BK Y Y at8 Y) (tK 3 [4,5] Y ?_));obtain⟨y,f⟩:=sI b k;obtain⟨p,q,r⟩:=AC (n:=1) rfl d f;obtain rfl:p=[.string y]:=r;refine Tk 6 Y Y (AJ (l:=b) (j:=k) AU Y Y Y (λw' hs=>(rA hs d)) Y (lS f)) (Tk 7 Y Y (HI BK Y Y q Y) (Tk 8 Y Y (E5 Y Y Y) (tE (Xt (R8 Y (λs=>?_) (λs=>?_))))))
    ·refine Sr (Pe Y (Ct (Xq (Xr (Xr (Xq (Xr (Rb Y Y ?_))))))));simp;intro e;subst e;simp_all
    ·refine Ck (Xb (Xt (Cr (p1 Y (ad (k+1) Y (Pe Y (λac w' hf hs=>⟨_,?_,k+1,?_,?_,Y,hf.wk Y,hs⟩)))))))
     ·omega
     ·omega
     ·exact DF hi ‹_› ‹_› (by simp_all)
   ·refine Cx (Xx (Xx (Xe (Xt (Sr (Pe Y (Ct (Rb Y Y ?_))))))));simp;exact C7 (by omega) (λi h=>hi i (by omega))
theorem ND{w:World}{c:List Value}{a:Fact}{d:List Value}{b:Fact}(h:Gd.rd w c a)(i:Gd.rd w d b):Cy 135 [(.agg c.toArray),(.agg d.toArray)] w (Val w (.bool (decide (a=b)))):=by
 obtain⟨k,rfl,e⟩:=AS h;have l:=rM e;obtain⟨m,rfl,f⟩:=AS i;have n:=rM f;refine enter 16 Tryz.func135 Y Y Y (Sr (bX Y λg7=>?_));refine bX Y λg8=>?_
 refine Pe Y (Dh ([bx g8 [(.string b.Rel),m],bx g7 [(.string a.Rel),k]]) Y (Cq (Sr (fl 1 EH BK Y (fl 0 EH BK Y (q1 Y (E5 Y Y Y) (Dx (R8 Y (λj=>?_) (λj=>?_)))))))))
 ·refine Sr (Pe Y (Ct (Xr (Rb Y Y ?_))))
  cases a;cases b;simp_all
 ·refine Sk (Cq (Sr (fl 1 BU B5 Y (fl 0 BU B5 Y (qv zP Y (λw' hs=>(NC (rA hs e) (rA hs f))) (Pe Y (AH [15] Y (AG [] Y (CN Y (λg=>?_) (λg=>?_))))))))))
  ·refine Sr (Pe Y (Ct (Xr (Rb Y Y ?_))))
   cases a;cases b;simp_all
  ·refine Sk (Sr (Pe Y (Ct (Rb Y Y ?_))))
   cases a;cases b;simp_all
theorem YZ{w:World}{c:List Value}{a:Event}{d:List Value}{b:Event}(e:Gd.rd w c a)(f:Gd.rd w d b):Cy 71 [(.agg c.toArray),(.agg d.toArray)] w (Val w (.bool (decide (a=b)))):=by
 obtain⟨n,rfl,j⟩:=D2 e;have p:=rM j;have k:=CC e;obtain⟨o,rfl,l⟩:=D2 f;have r:=rM l;have m:=CC f;refine enter 21 Tryz.func71 Y Y Y (Sr (bX Y λg9=>?_));refine bX Y λg10=>?_
 refine Pe Y (Dh ([bx g10 [(iv b.Kind),(.string b.Rule),(.string b.Fact.Rel),o],bx g9 [(iv a.Kind),(.string a.Rule),(.string a.Fact.Rel),n]]) Y (Cq (Sr (fl 1 M2 CJ Y (fl 0 M2 CJ Y (Pe Y (Cn Y (λg=>?_) (λg=>?_))))))))
 ·refine Sr (Pe Y (Ct (Xr (Rb Y Y ?_))))
  cases a;cases b;simp_all
 ·refine Sk (Cq (Sr (fl 1 DT BK Y (fl 0 DT BK Y (q1 Y (E5 Y Y Y) (Dx (R8 Y (λh=>?_) (λh=>?_))))))))
  ·refine Sr (Pe Y (Ct (Xr (Rb Y Y ?_))))
   cases a;cases b;simp_all
  ·refine Sk (Cq (Sr (q1 Y (Db EI Y Y (q:=2) Y) (q1 Y (H2 (es:=[(.string a.Fact.Rel),n]) 1 C3 Y Y Y Y) (q1 Y (Db EI Y Y (q:=2) Y) (q1 Y (H2 (es:=[(.string b.Fact.Rel),o]) 0 C3 Y Y Y Y) (qv pC Y (λw' hs=>(ND (rA hs k) (rA hs m))) (Pe Y (AH [20] Y (AG [] Y (CN Y (λi=>?_) (λi=>?_))))))))))))
   ·refine Sr (Pe Y (Ct (Xr (Rb Y Y ?_))))
    cases a;cases b;simp_all
   ·refine Sk (Sr (Pe Y (Ct (Rb Y Y ?_))))
    cases a;cases b;simp_all
end Go.Sy.Ev1
