/-
  Contracts of functions of the program, walked (printed by a program of ours).
  Conditions: those that each theorem states.
-/
import Derived.Test.YtbnpgdcpbmaebaaGreatDoorFct
import Derived.Test.YtbnpgdcpbmaebaaGreatDoorEv
import Derived.Test.YtbnpgdcpbmaebaaGreatDoorTypes
section
set_option linter.unusedVariables false
set_option maxRecDepth 20000
namespace Go.Sy.Ev1
open Go Go.RowKit Go.Proofs Go.Sy
open Go.Sy.Bel1
theorem FC{w:World}{s:ByteArray}:Cy 118 [(.string s)] w (Val w (.bool (BA s))):=by
 refine enter 40 Tryz.func118 Y Y Y (Sr (Pe Y (Cq (Sr (p1 Y (q1 Y (FZ F5 Y Y) (P2 Y Y (EY 7 Y Y (λa=>?_) (λa=>?_)))))))))
 ·refine n1 Y (n1 Y (n1 Y (Pe Y (GF Y (Sr (Pe Y (Ct (Xr (Rb Y Y ?_)))))))));exact S7 (by omega)
 ·refine p1 Y (q1 Y (FZ F5 Y Y) (P2 Y Y (Dx (Cd Y (λb=>?_) (λb=>?_)))))
  ·refine Sr (Pe Y (Ct (Xr (Rb Y Y ?_))));exact S7 (by omega)
  ·refine Sk (Cq (Sr (Pe Y (Cb (Cl (λm_ ac w'=>∃(k:Nat),(k<=s.size)/\(∀i,i<k->M8 (sB s i)=true)/\m_=s.size-k/\Fits ac 40 [(0,(.string s)),(3,(nv k))]/\St w ([]) w') ?_ ?_)))))
   ·refine λac w' hf hs=>⟨_,0,?_,?_,Y,hf.wk Y,hs⟩
    ·omega
    ·intro i hi;omega
   ·rintro m_ ac w' ⟨k,hk,hi,rfl,hf,hs⟩;refine D.use ?_ hf hs;clear hf hs ac w';refine Cq (Sr (P2 Y Y (q1 Y (FZ F5 Y Y) (Pe Y (Cd Y (λc=>?_) (λc=>?_))))))
    ·refine Sk (Cq (Cb (Sr (P2 Y Y (q1 Y (HL (j:=k) F5 Y Y Y Y (by omega)) (P2 Y Y (EY 22 Y Y (λd=>?_) (λd=>?_))))))))
     ·refine n1 Y (n1 Y (n1 Y (n1 Y (P3 Y Y Y (p1 Y (q1 Y (HL (j:=k) F5 Y Y Y Y (by omega)) (P2 Y Y (EY 33 Y Y (λe=>?_) (λe=>?_)))))))))
      ·refine n1 Y (n1 Y (n1 Y (n1 Y (P2 Y Y (Dx (AH [0,3,39] Y (GF Y (Sr (Pe Y (Ct (Xq (Xr (Xr (Xq (Xr (Rb Y Y ?_))))))))))))))));exact S8 (k:=k) (by omega) (fQ (by omega))
      ·refine P2 Y Y (q1 Y (HL (j:=k) F5 Y Y Y Y (by omega)) (P3 Y Y Y (Dx (AH [0,3,39] Y (Cd Y (λf=>?_) (λf=>?_))))))
       ·refine Sr (Pe Y (Ct (Xq (Xr (Xr (Xq (Xr (Rb Y Y ?_))))))));exact S8 (k:=k) (by omega) (fQ (by omega))
       ·refine Ck (Xb (Xt (Cr (p1 Y (ad (k+1) Y (Pe Y (λac w' hf hs=>⟨_,?_,k+1,?_,?_,Y,hf.wk Y,hs⟩)))))))
        ·omega
        ·omega
        ·exact AF hi (fP (by omega))
     ·refine P2 Y Y (q1 Y (HL (j:=k) F5 Y Y Y Y (by omega)) (P3 Y Y Y (EY 28 Y Y (λg=>?_) (λg=>?_))))
      ·refine P2 Y Y (q1 Y (HL (j:=k) F5 Y Y Y Y (by omega)) (P2 Y Y (EY 33 Y Y (λl=>?_) (λl=>?_))))
       ·refine n1 Y (n1 Y (n1 Y (n1 Y (P2 Y Y (Dx (AH [0,3,39] Y (GF Y (Sr (Pe Y (Ct (Xq (Xr (Xr (Xq (Xr (Rb Y Y ?_))))))))))))))));exact S7 (by omega)
       ·refine P2 Y Y (q1 Y (HL (j:=k) F5 Y Y Y Y (by omega)) (P3 Y Y Y (Dx (AH [0,3,39] Y (Cd Y (λm=>?_) (λm=>?_))))))
        ·refine Sr (Pe Y (Ct (Xq (Xr (Xr (Xq (Xr (Rb Y Y ?_))))))));exact S8 (k:=k) (by omega) (fQ (by omega))
        ·refine Ck (Xb (Xt (Cr (p1 Y (ad (k+1) Y (Pe Y (λac w' hf hs=>⟨_,?_,k+1,?_,?_,Y,hf.wk Y,hs⟩)))))))
         ·omega
         ·omega
         ·exact AF hi (fP (by omega))
      ·refine n1 Y (n1 Y (n1 Y (n1 Y (n1 Y (n1 Y (n1 Y (n1 Y (n1 Y (n1 Y (Pe Y (AH [0,3,39] Y (G7 Y (Ck (Xb (Xt (Cr (p1 Y (ad (k+1) Y (Pe Y ?_)))))))))))))))))));refine λac w' hf hs=>⟨_,?_,k+1,?_,?_,Y,hf.wk Y,hs⟩
       ·omega
       ·omega
       ·exact AF hi (fP (by omega))
    ·refine Cx (Xx (Xx (Xe (Xt (Sr (Pe Y (Ct (Rb Y Y ?_))))))));exact qQ (by omega) (λi h=>hi i (by omega))
theorem FD{w:World}{s:ByteArray}(d:s.size<=9223372036854775807):Cy 192 [(.string s)] w (Val w (.bool (BA s))):=by
 refine enter 27 Tryz.func192 Y Y Y (Sr (Pe Y (Cq (Sr (Pe Y (Cb (Cl (λm_ ac w'=>∃(k:Nat),(k<=s.size)/\(∀i,i<k->M8 (sB s i)=true)/\m_=s.size-k/\Fits ac 27 [(0,(.string s)),(3,(nv k))]/\St w ([]) w') ?_ ?_)))))))
 ·refine λac w' hf hs=>⟨_,0,?_,?_,Y,hf.wk Y,hs⟩
  ·omega
  ·intro i hi;omega
 ·rintro m_ ac w' ⟨k,hk,hi,rfl,hf,hs⟩;refine D.use ?_ hf hs;clear hf hs ac w';refine Cq (Sr (P2 Y Y (q1 Y (FZ F5 Y Y) (Pe Y (Cd Y (λa=>?_) (λa=>?_))))))
  ·refine Sk (Cq (Cb (Sr (P2 Y Y (q1 Y (HL (j:=k) F5 Y Y Y Y (by omega)) (q1 Y (oN LO ⟨_,VL⟩ Y Y) (qv B4A Y (λw' hs=>E7) (P2 Y Y (JQ 16 Y Y (λb=>?_) (λb=>?_))))))))))
   ·refine P2 Y Y (q1 Y (HL (j:=k) F5 Y Y Y Y (by omega)) (q1 Y (oN LO ⟨_,VL⟩ Y Y) (qv B4A Y (λw' hs=>E7) (P2 Y Y (Dx (AH [0,3,23] Y (CN Y (λc=>?_) (λc=>?_))))))))
    ·refine Sr (Pe Y (Ct (Xq (Xr (Xr (Xq (Xr (Rb Y Y ?_))))))));exact S8 (k:=k) (by omega) (by unfold M8;simp_all)
    ·refine Ck (Xb (Xt (Cr (p1 Y (ad (k+1) Y (Pe Y (λac w' hf hs=>⟨_,?_,k+1,?_,?_,Y,hf.wk Y,hs⟩)))))))
     ·omega
     ·omega
     ·exact AF hi (by unfold M8;simp_all)
   ·refine n1 Y (n1 Y (n1 Y (n1 Y (n1 Y (n1 Y (Pe Y (AH [0,3,23] Y (G7 Y (Ck (Xb (Xt (Cr (p1 Y (ad (k+1) Y (Pe Y (λac w' hf hs=>⟨_,?_,k+1,?_,?_,Y,hf.wk Y,hs⟩))))))))))))))))
    ·omega
    ·omega
    ·exact AF hi (by unfold M8;simp_all)
  ·refine Cx (Xx (Xx (Xe (Xt (Sr (p1 Y (q1 Y (FZ F5 Y Y) (qv B4A Y (λw' hs=>E7) (Pe Y (Ct (Rb Y Y ?_)))))))))));show((GO ((s.size:Nat):Int) 1 8):Bool)=_;exact A1g (λi h=>hi i (by omega))
theorem EA{w:World}{s:ByteArray}:Cy 104 [(.string s)] w (Val w (.bool (FK s))):=by
 refine enter 10 Tryz.func104 Y Y Y (Sr (Pe Y (Sr (p1 Y (qv A3V Y (λw' hs=>FC) (p1 Y (gs 5 Y Y (λh1=>?_) (λh1=>?_))))))))
 ·refine p1 Y ?_;have hsz:=IV (s:=s) ‹_›;refine q1 Y (HL (j:=0) F5 Y Y Y Y (by omega)) (P3 Y Y Y (Dx (Ct (Rb Y Y ?_))));show((decide ((97:Int)<=(sB s 0))):Bool)=_;unfold FK;simp_all
 ·refine n1 Y (n1 Y (n1 Y (P2 Y Y (Dx (Ct (Rb Y Y ?_))))));unfold FK;simp_all
theorem EB{w:World}{s:ByteArray}(a:s.size<=9223372036854775807):Cy 136 [(.string s)] w (Val w (.bool (FK s))):=by
 refine enter 11 Tryz.func136 Y Y Y (Sr (Pe Y (Sr (p1 Y (qv A0R Y (λw' hs=>(FD ‹_›)) (p1 Y (gs 5 Y Y (λh1=>?_) (λh1=>?_))))))))
 ·refine p1 Y ?_;have hsz:=IV (s:=s) ‹_›;refine q1 Y (HL (j:=0) F5 Y Y Y Y (by omega)) (q1 Y (oN LO ⟨_,VL⟩ Y Y) (qv B4A Y (λw' hs=>E7) (P2 Y Y (Dx (Ct (Rb Y Y ?_))))));show((GO (sB s 0) 97 122):Bool)=_;unfold FK;rw[A1h ‹_›];simp_all
 ·refine n1 Y (n1 Y (n1 Y (n1 Y (P2 Y Y (Dx (Ct (Rb Y Y ?_)))))));unfold FK;simp_all
theorem EQ{w:World}{d:List Value}{f:Fact}(g:Gd.rd w d f):Cy 60 [(.agg d.toArray)] w (Val w (.bool (BI f))):=by
 obtain⟨m,rfl,a⟩:=AS g;have t:=rM a;refine enter 26 Tryz.func60 Y Y Y (Sr (bX Y λg4=>?_));refine Pe Y (Dh ([bx g4 [(.string f.Rel),m]]) Y (Cq (Sr (fl 0 B5C BK Y (qv A0Y Y (λw' hs=>EA) (P2 Y Y (JQ 9 Y Y (λo=>?_) (λo=>?_))))))))
 ·refine n1 Y (n1 Y (n1 Y (n1 Y (Pe Y (GF Y (Sr (Pe Y (Ct (Xr (Rb Y Y ?_))))))))));unfold BI;simp_all
 ·refine fl 0 C1F C1G Y (dl C1D Y (AE a) (P2 Y Y (Dx (Cd Y (λq=>?_) (λq=>?_)))))
  ·refine Sr (Pe Y (Ct (Xr (Rb Y Y ?_))));unfold BI;rw[decide_eq_false (by omega:¬f.Args.length<=3)];simp
  ·refine Sk (Cq (Sr (fl 0 C1F C1G Y (dl C1D Y (AE a) (Pe Y (Cb (Cl (λm_ ac w'=>∃(k:Nat),(k<=f.Args.length)/\(∀i,i<k->∀y,f.Args[i]?=some y->BA y=true)/\m_=f.Args.length-k/\Fits ac 26 [(16,m),(17,(nv f.Args.length)),(18,(nv k))]/\St w ([bx g4 [(.string f.Rel),m]]) w') ?_ ?_)))))))
   ·refine λac w' hf hs=>⟨_,0,?_,?_,Y,hf.wk Y,hs⟩
    ·omega
    ·intro i hi;omega
   ·rintro m_ ac w' ⟨k,hk,hi,rfl,hf,hs⟩;refine D.use ?_ hf hs;clear hf hs ac w';refine Sr (Pe Y (Cq (Cd Y (λr=>?_) (λr=>?_))))
    ·refine Sk (Cq (Cb (Sr ?_)));obtain⟨a0,c⟩:=sI f.Args k;obtain⟨s,at9,e⟩:=AC (n:=1) rfl a c;obtain rfl:s=[.string a0]:=e;refine q1 Y (AJ (l:=f.Args) (j:=k) C1D Y Y Y (λw' hs=>(rA hs a)) Y (lS c)) (q1 Y (HI BK Y Y at9 Y) (Pe Y (Sr (p1 Y (qv A3V Y (λw' hs=>FC) (Pe Y (CN Y (λb=>?_) (λb=>?_))))))))
     ·refine Sr (Pe Y (Ct (Xq (Xr (Xr (Xq (Xr (Rb Y Y ?_))))))));unfold BI;rw[S6 (p:=BA) c b];simp
     ·refine Ck (Xb (Xt (Cr (ad (k+1) Y (Pe Y (λac w' hf hs=>⟨_,?_,k+1,?_,?_,Y,hf.wk Y,hs⟩))))))
      ·omega
      ·omega
      ·refine AF hi ?_;intro y hy;obtain rfl:y=a0:=Option.some.inj (hy.symm.trans c);exact b
    ·refine Cx (Xx (Xx (Xe (Xt (Sr (Pe Y (Ct (Rb Y Y ?_))))))));unfold BI;rw[IN (p:=BA) (λi h=>hi i (by omega)),decide_eq_true (by omega:f.Args.length<=3)];simp_all
theorem ER{w:World}{d:List Value}{f:Fact}(g:Gd.rd w d f)(e:P9 f):Cy 135 [(.agg d.toArray)] w (Val w (.bool (BI f))):=by
 obtain⟨t,rfl,a⟩:=AS g;have u:=rM a;refine enter 27 Tryz.func135 Y Y Y (Sr (bX Y λg4=>?_));refine Pe Y (Dh ([bx g4 [(.string f.Rel),t]]) Y (Cq (Sr (Pe Y (Cb (Cl (λm_ ac w'=>∃(k:Nat),(k<=f.Args.length)/\(∀i,i<k->∀y,f.Args[i]?=some y->BA y=true)/\m_=f.Args.length-k/\Fits ac 27 [(1,(pv g4)),(3,(nv k))]/\St w ([bx g4 [(.string f.Rel),t]]) w') ?_ ?_))))))
 ·refine λac w' hf hs=>⟨_,0,?_,?_,Y,hf.wk Y,hs⟩
  ·omega
  ·intro i hi;omega
 ·rintro m_ ac w' ⟨k,hk,hi,rfl,hf,hs⟩;refine D.use ?_ hf hs;clear hf hs ac w';refine Cq (Sr (p1 Y (fl 0 C1F C1G Y (dl C1D Y (AE a) (Pe Y (Cd Y (λm=>?_) (λm=>?_)))))))
  ·refine Sk (Cq (Cb (Sr (fl 0 C1F C1G Y (p1 Y ?_)))));obtain⟨a0,b⟩:=sI f.Args k;have v:a0.size<=9223372036854775807:=e.2 _ (List.mem_of_getElem? b);obtain⟨o,q,r⟩:=AC (n:=1) rfl a b;obtain rfl:o=[.string a0]:=r;refine q1 Y (AJ (l:=f.Args) (j:=k) C1D Y Y Y (λw' hs=>(rA hs a)) Y (lS b)) (q1 Y (HI BK Y Y q Y) (qv A0R Y (λw' hs=>(FD ‹_›)) (Pe Y (CN Y (λc=>?_) (λc=>?_)))))
   ·refine Sr (Pe Y (Ct (Xq (Xr (Xr (Xq (Xr (Rb Y Y ?_))))))));unfold BI;rw[S6 (p:=BA) b c];simp
   ·refine Ck (Xb (Xt (Cr (p1 Y (ad (k+1) Y (Pe Y (λac w' hf hs=>⟨_,?_,k+1,?_,?_,Y,hf.wk Y,hs⟩)))))))
    ·omega
    ·omega
    ·refine AF hi ?_;intro y hy;obtain rfl:y=a0:=Option.some.inj (hy.symm.trans b);exact c
  ·refine Cx (Xx (Xx (Xe (Xt (Sr (fl 0 B5C BK Y (qv A4y Y (λw' hs=>(EB e.1)) (p1 Y (gs 21 Y Y (λs=>?_) (λs=>?_))))))))))
   ·refine fl 0 C1F C1G Y (dl C1D Y (AE a) (P3 Y Y Y (Dx (Ct (Rb Y Y ?_)))));show((decide ((((f.Args.length:Nat):Int):Int)<=3)):Bool)=_;unfold BI;rw[IN (p:=BA) (λi h=>hi i (by omega))];simp_all;try omega
   ·refine n1 Y (n1 Y (n1 Y (n1 Y (P2 Y Y (Dx (Ct (Rb Y Y ?_)))))));unfold BI;rw[IN (p:=BA) (λi h=>hi i (by omega))];simp_all;try omega
set_option maxHeartbeats 4000000 in
theorem YV{w:World}{h:List Value}{x:Event}(i:Gd.rd w h x):Cy 132 [(.agg h.toArray)] w (Val w (.bool (AN x))):=by
 obtain⟨b,rfl,j⟩:=D2 i;have a7:=rM j;have a:=CC i;refine enter 48 Tryz.func132 Y Y Y (Sr (bX Y λg5=>?_));refine Pe Y (Dh ([bx g5 [(iv x.Kind),(.string x.Rule),(.string x.Fact.Rel),b]]) Y (Sr (q1 Y (Db C1S Y Y (q:=2) Y) (fl 0 B5C BK Y (q1 Y (DO Y Y Y) (p1 Y (EY 8 Y Y (λv=>?_) (λv=>?_))))))))
 ·refine q1 Y (Db C1S Y Y (q:=2) Y) (fl 0 C1F C1G Y (dl C1D Y (AE j) (P3 Y Y Y (Dx (Cq (Sr (fl 0 C1y CJ Y (Dx (Cb (Cq (Sr (P2 Y Y (Dx (AH [1,3,16,17] Y (Ce Y (λk=>?_) (λk=>?_))))))))))))))))
  ·refine Sk (I4 Y (beq_iff_eq.2 k) (Sr (fl 0 C1W BK Y (q1 Y (DO Y Y Y) (p1 Y (EY 23 Y Y (λy=>?_) (λy=>?_)))))))
   ·refine q1 Y (Db C1S Y Y (q:=2) Y) (q1 Y (H2 (es:=[(.string x.Fact.Rel),b]) 0 B4Z Y Y Y Y) (qv A6U Y (λw' hs=>(EQ (rA hs a))) (P2 Y Y (Dx (Ct (Xq (Xr (Rb Y Y ?_))))))));show((BI x.Fact):Bool)=_;unfold AN;simp_all;try (first|omega|(rw[Bool.eq_iff_iff];simp))
   ·refine n1 Y (n1 Y (n1 Y (P2 Y Y (Dx (Ct (Xq (Xr (Rb Y Y ?_))))))));unfold AN;simp_all;try (first|omega|(rw[Bool.eq_iff_iff];simp))
  ·refine Cr (P2 Y Y (Dx (Ce Y (λl=>?_) (λl=>?_))))
   ·refine Sr (fl 0 C1W BK Y (q1 Y (DO Y Y Y) (p1 Y (EY 23 Y Y (λm=>?_) (λm=>?_)))))
    ·refine q1 Y (Db C1S Y Y (q:=2) Y) (q1 Y (H2 (es:=[(.string x.Fact.Rel),b]) 0 B4Z Y Y Y Y) (qv A6U Y (λw' hs=>(EQ (rA hs a))) (P2 Y Y (Dx (Ct (Xq (Xr (Rb Y Y ?_))))))));show((BI x.Fact):Bool)=_;unfold AN;simp_all;try (first|omega|(rw[Bool.eq_iff_iff];simp))
    ·refine n1 Y (n1 Y (n1 Y (P2 Y Y (Dx (Ct (Xq (Xr (Rb Y Y ?_))))))));unfold AN;simp_all;try (first|omega|(rw[Bool.eq_iff_iff];simp))
   ·refine Cq (Sr (P2 Y Y (Dx (Ce Y (λc=>?_) (λc=>?_)))))
    ·refine Sk (I4 Y (beq_iff_eq.2 c) (Sr (fl 0 C1W BK Y (qv A0Y Y (λw' hs=>EA) (p1 Y (gs 34 Y Y (λz=>?_) (λz=>?_)))))))
     ·refine P3 Y Y Y (Dx (Ct (Xq (Xr (Rb Y Y ?_)))));show(((((x.Fact.Args.length:Nat):Int):Int)==0):Bool)=_;unfold AN;simp_all;try (rw[Bool.eq_iff_iff];simp)
     ·refine n1 Y (P2 Y Y (Dx (Ct (Xq (Xr (Rb Y Y ?_))))));unfold AN;simp_all;try (first|omega|(rw[Bool.eq_iff_iff];simp))
    ·refine Cr (P2 Y Y (Dx (Ce Y (λn=>?_) (λn=>?_))))
     ·refine Sr (fl 0 C1W BK Y (qv A0Y Y (λw' hs=>EA) (p1 Y (gs 34 Y Y (λa0=>?_) (λa0=>?_)))))
      ·refine P3 Y Y Y (Dx (Ct (Xq (Xr (Rb Y Y ?_)))));show(((((x.Fact.Args.length:Nat):Int):Int)==0):Bool)=_;unfold AN;simp_all;try (rw[Bool.eq_iff_iff];simp)
      ·refine n1 Y (P2 Y Y (Dx (Ct (Xq (Xr (Rb Y Y ?_))))));unfold AN;simp_all;try (first|omega|(rw[Bool.eq_iff_iff];simp))
     ·refine Cq (Sr (P2 Y Y (Dx (Ce Y (λd=>?_) (λd=>?_)))))
      ·refine Sk (I4 Y (beq_iff_eq.2 d) (Sr (fl 0 C1W BK Y (qv A0Y Y (λw' hs=>EA) (p1 Y (gs 43 Y Y (λa1=>?_) (λa1=>?_)))))))
       ·refine q1 Y (Db C1S Y Y (q:=2) Y) (q1 Y (H2 (es:=[(.string x.Fact.Rel),b]) 0 B4Z Y Y Y Y) (qv A6U Y (λw' hs=>(EQ (rA hs a))) (P2 Y Y (Dx (Ct (Xq (Xr (Rb Y Y ?_))))))));show((BI x.Fact):Bool)=_;unfold AN;simp_all;try (first|omega|(rw[Bool.eq_iff_iff];simp))
       ·refine n1 Y (n1 Y (n1 Y (P2 Y Y (Dx (Ct (Xq (Xr (Rb Y Y ?_))))))));unfold AN;simp_all;try (first|omega|(rw[Bool.eq_iff_iff];simp))
      ·refine Cr (P2 Y Y (Dx (Ce Y (λo=>?_) (λo=>?_))))
       ·refine Sr (fl 0 C1W BK Y (qv A0Y Y (λw' hs=>EA) (p1 Y (gs 43 Y Y (λa2=>?_) (λa2=>?_)))))
        ·refine q1 Y (Db C1S Y Y (q:=2) Y) (q1 Y (H2 (es:=[(.string x.Fact.Rel),b]) 0 B4Z Y Y Y Y) (qv A6U Y (λw' hs=>(EQ (rA hs a))) (P2 Y Y (Dx (Ct (Xq (Xr (Rb Y Y ?_))))))));show((BI x.Fact):Bool)=_;unfold AN;simp_all;try (first|omega|(rw[Bool.eq_iff_iff];simp))
        ·refine n1 Y (n1 Y (n1 Y (P2 Y Y (Dx (Ct (Xq (Xr (Rb Y Y ?_))))))));unfold AN;simp_all;try (first|omega|(rw[Bool.eq_iff_iff];simp))
       ·refine Ck (Xb (Xt (Sr (Pe Y (Ct (Rb Y Y ?_))))));unfold AN;simp_all;try (first|omega|(rw[Bool.eq_iff_iff];simp))
 ·refine n1 Y (n1 Y (n1 Y (n1 Y (n1 Y (P2 Y Y (Dx (Cq (Sr (fl 0 C1y CJ Y (Dx (Cb (Cq (Sr (P2 Y Y (Dx (AH [1,3,16,17] Y (Ce Y (λe=>?_) (λe=>?_))))))))))))))))))
  ·refine Sk (I4 Y (beq_iff_eq.2 e) (Sr (fl 0 C1W BK Y (q1 Y (DO Y Y Y) (p1 Y (EY 23 Y Y (λp=>?_) (λp=>?_)))))))
   ·refine q1 Y (Db C1S Y Y (q:=2) Y) (q1 Y (H2 (es:=[(.string x.Fact.Rel),b]) 0 B4Z Y Y Y Y) (qv A6U Y (λw' hs=>(EQ (rA hs a))) (P2 Y Y (Dx (Ct (Xq (Xr (Rb Y Y ?_))))))));show((BI x.Fact):Bool)=_;unfold AN;simp_all;try (first|omega|(rw[Bool.eq_iff_iff];simp))
   ·refine n1 Y (n1 Y (n1 Y (P2 Y Y (Dx (Ct (Xq (Xr (Rb Y Y ?_))))))));unfold AN;simp_all;try (first|omega|(rw[Bool.eq_iff_iff];simp))
  ·refine Cr (P2 Y Y (Dx (Ce Y (λr=>?_) (λr=>?_))))
   ·refine Sr (fl 0 C1W BK Y (q1 Y (DO Y Y Y) (p1 Y (EY 23 Y Y (λs=>?_) (λs=>?_)))))
    ·refine q1 Y (Db C1S Y Y (q:=2) Y) (q1 Y (H2 (es:=[(.string x.Fact.Rel),b]) 0 B4Z Y Y Y Y) (qv A6U Y (λw' hs=>(EQ (rA hs a))) (P2 Y Y (Dx (Ct (Xq (Xr (Rb Y Y ?_))))))));show((BI x.Fact):Bool)=_;unfold AN;simp_all;try (first|omega|(rw[Bool.eq_iff_iff];simp))
    ·refine n1 Y (n1 Y (n1 Y (P2 Y Y (Dx (Ct (Xq (Xr (Rb Y Y ?_))))))));unfold AN;simp_all;try (first|omega|(rw[Bool.eq_iff_iff];simp))
   ·refine Cq (Sr (P2 Y Y (Dx (Ce Y (λf=>?_) (λf=>?_)))))
    ·refine Sk (I4 Y (beq_iff_eq.2 f) (Sr (fl 0 C1W BK Y (qv A0Y Y (λw' hs=>EA) (p1 Y (gs 34 Y Y (λa3=>?_) (λa3=>?_)))))))
     ·refine P3 Y Y Y (Dx (Ct (Xq (Xr (Rb Y Y ?_)))));unfold AN;simp_all;try (first|omega|(rw[Bool.eq_iff_iff];simp))
     ·refine n1 Y (P2 Y Y (Dx (Ct (Xq (Xr (Rb Y Y ?_))))));unfold AN;simp_all;try (first|omega|(rw[Bool.eq_iff_iff];simp))
    ·refine Cr (P2 Y Y (Dx (Ce Y (λt=>?_) (λt=>?_))))
     ·refine Sr (fl 0 C1W BK Y (qv A0Y Y (λw' hs=>EA) (p1 Y (gs 34 Y Y (λa4=>?_) (λa4=>?_)))))
      ·refine P3 Y Y Y (Dx (Ct (Xq (Xr (Rb Y Y ?_)))));unfold AN;simp_all;try (first|omega|(rw[Bool.eq_iff_iff];simp))
      ·refine n1 Y (P2 Y Y (Dx (Ct (Xq (Xr (Rb Y Y ?_))))));unfold AN;simp_all;try (first|omega|(rw[Bool.eq_iff_iff];simp))
     ·refine Cq (Sr (P2 Y Y (Dx (Ce Y (λg=>?_) (λg=>?_)))))
      ·refine Sk (I4 Y (beq_iff_eq.2 g) (Sr (fl 0 C1W BK Y (qv A0Y Y (λw' hs=>EA) (p1 Y (gs 43 Y Y (λa5=>?_) (λa5=>?_)))))))
       ·refine q1 Y (Db C1S Y Y (q:=2) Y) (q1 Y (H2 (es:=[(.string x.Fact.Rel),b]) 0 B4Z Y Y Y Y) (qv A6U Y (λw' hs=>(EQ (rA hs a))) (P2 Y Y (Dx (Ct (Xq (Xr (Rb Y Y ?_))))))));show((BI x.Fact):Bool)=_;unfold AN;simp_all;try (first|omega|(rw[Bool.eq_iff_iff];simp))
       ·refine n1 Y (n1 Y (n1 Y (P2 Y Y (Dx (Ct (Xq (Xr (Rb Y Y ?_))))))));unfold AN;simp_all;try (first|omega|(rw[Bool.eq_iff_iff];simp))
      ·refine Cr (P2 Y Y (Dx (Ce Y (λu=>?_) (λu=>?_))))
       ·refine Sr (fl 0 C1W BK Y (qv A0Y Y (λw' hs=>EA) (p1 Y (gs 43 Y Y (λa6=>?_) (λa6=>?_)))))
        ·refine q1 Y (Db C1S Y Y (q:=2) Y) (q1 Y (H2 (es:=[(.string x.Fact.Rel),b]) 0 B4Z Y Y Y Y) (qv A6U Y (λw' hs=>(EQ (rA hs a))) (P2 Y Y (Dx (Ct (Xq (Xr (Rb Y Y ?_))))))));show((BI x.Fact):Bool)=_;unfold AN;simp_all;try (first|omega|(rw[Bool.eq_iff_iff];simp))
        ·refine n1 Y (n1 Y (n1 Y (P2 Y Y (Dx (Ct (Xq (Xr (Rb Y Y ?_))))))));unfold AN;simp_all;try (first|omega|(rw[Bool.eq_iff_iff];simp))
       ·refine Ck (Xb (Xt (Sr (Pe Y (Ct (Rb Y Y ?_))))));unfold AN;simp_all;try (first|omega|(rw[Bool.eq_iff_iff];simp))
set_option maxHeartbeats 4000000 in
theorem YW{w:World}{i:List Value}{x:Event}(j:Gd.rd w i x)(a:wK x):Cy 70 [(.agg i.toArray)] w (Val w (.bool (AN x))):=by
 obtain⟨c,rfl,k⟩:=D2 j;have a8:=rM k;have b:=CC j;refine enter 48 Tryz.func70 Y Y Y (Sr (bX Y λg5=>?_));refine Pe Y (Dh ([bx g5 [(iv x.Kind),(.string x.Rule),(.string x.Fact.Rel),c]]) Y (Sr (q1 Y (Db C1S Y Y (q:=2) Y) (fl 0 B5C BK Y (q1 Y (DO Y Y Y) (p1 Y (EY 8 Y Y (λy=>?_) (λy=>?_))))))))
 ·refine q1 Y (Db C1S Y Y (q:=2) Y) (fl 0 C1F C1G Y (dl C1D Y (AE k) (P3 Y Y Y (Dx (Cq (Sr (fl 0 C1y CJ Y (Dx (Cb (Cq (Sr (P2 Y Y (Dx (AH [1,3,16,17] Y (Ce Y (λl=>?_) (λl=>?_))))))))))))))))
  ·refine Sk (I4 Y (beq_iff_eq.2 l) (Sr (fl 0 C1W BK Y (q1 Y (DO Y Y Y) (p1 Y (EY 23 Y Y (λz=>?_) (λz=>?_)))))))
   ·refine q1 Y (Db C1S Y Y (q:=2) Y) (q1 Y (H2 (es:=[(.string x.Fact.Rel),c]) 0 B4Z Y Y Y Y) (qv pC Y (λw' hs=>(ER (rA hs b) a.2.2)) (P2 Y Y (Dx (Ct (Xq (Xr (Rb Y Y ?_))))))));show((BI x.Fact):Bool)=_;unfold AN;simp_all;try (first|omega|(rw[Bool.eq_iff_iff];simp))
   ·refine n1 Y (n1 Y (n1 Y (P2 Y Y (Dx (Ct (Xq (Xr (Rb Y Y ?_))))))));unfold AN;simp_all;try (first|omega|(rw[Bool.eq_iff_iff];simp))
  ·refine Cr (P2 Y Y (Dx (Ce Y (λm=>?_) (λm=>?_))))
   ·refine Sr (fl 0 C1W BK Y (q1 Y (DO Y Y Y) (p1 Y (EY 23 Y Y (λn=>?_) (λn=>?_)))))
    ·refine q1 Y (Db C1S Y Y (q:=2) Y) (q1 Y (H2 (es:=[(.string x.Fact.Rel),c]) 0 B4Z Y Y Y Y) (qv pC Y (λw' hs=>(ER (rA hs b) a.2.2)) (P2 Y Y (Dx (Ct (Xq (Xr (Rb Y Y ?_))))))));show((BI x.Fact):Bool)=_;unfold AN;simp_all;try (first|omega|(rw[Bool.eq_iff_iff];simp))
    ·refine n1 Y (n1 Y (n1 Y (P2 Y Y (Dx (Ct (Xq (Xr (Rb Y Y ?_))))))));unfold AN;simp_all;try (first|omega|(rw[Bool.eq_iff_iff];simp))
   ·refine Cq (Sr (P2 Y Y (Dx (Ce Y (λd=>?_) (λd=>?_)))))
    ·refine Sk (I4 Y (beq_iff_eq.2 d) (Sr (fl 0 C1W BK Y (qv A4y Y (λw' hs=>(EB a.2.1)) (p1 Y (gs 34 Y Y (λa0=>?_) (λa0=>?_)))))))
     ·refine P3 Y Y Y (Dx (Ct (Xq (Xr (Rb Y Y ?_)))));show(((((x.Fact.Args.length:Nat):Int):Int)==0):Bool)=_;unfold AN;simp_all;try (rw[Bool.eq_iff_iff];simp)
     ·refine n1 Y (P2 Y Y (Dx (Ct (Xq (Xr (Rb Y Y ?_))))));unfold AN;simp_all;try (first|omega|(rw[Bool.eq_iff_iff];simp))
    ·refine Cr (P2 Y Y (Dx (Ce Y (λo=>?_) (λo=>?_))))
     ·refine Sr (fl 0 C1W BK Y (qv A4y Y (λw' hs=>(EB a.2.1)) (p1 Y (gs 34 Y Y (λa1=>?_) (λa1=>?_)))))
      ·refine P3 Y Y Y (Dx (Ct (Xq (Xr (Rb Y Y ?_)))));show(((((x.Fact.Args.length:Nat):Int):Int)==0):Bool)=_;unfold AN;simp_all;try (rw[Bool.eq_iff_iff];simp)
      ·refine n1 Y (P2 Y Y (Dx (Ct (Xq (Xr (Rb Y Y ?_))))));unfold AN;simp_all;try (first|omega|(rw[Bool.eq_iff_iff];simp))
     ·refine Cq (Sr (P2 Y Y (Dx (Ce Y (λe=>?_) (λe=>?_)))))
      ·refine Sk (I4 Y (beq_iff_eq.2 e) (Sr (fl 0 C1W BK Y (qv A4y Y (λw' hs=>(EB a.2.1)) (p1 Y (gs 43 Y Y (λa2=>?_) (λa2=>?_)))))))
       ·refine q1 Y (Db C1S Y Y (q:=2) Y) (q1 Y (H2 (es:=[(.string x.Fact.Rel),c]) 0 B4Z Y Y Y Y) (qv pC Y (λw' hs=>(ER (rA hs b) a.2.2)) (P2 Y Y (Dx (Ct (Xq (Xr (Rb Y Y ?_))))))));show((BI x.Fact):Bool)=_;unfold AN;simp_all;try (first|omega|(rw[Bool.eq_iff_iff];simp))
       ·refine n1 Y (n1 Y (n1 Y (P2 Y Y (Dx (Ct (Xq (Xr (Rb Y Y ?_))))))));unfold AN;simp_all;try (first|omega|(rw[Bool.eq_iff_iff];simp))
      ·refine Cr (P2 Y Y (Dx (Ce Y (λp=>?_) (λp=>?_))))
       ·refine Sr (fl 0 C1W BK Y (qv A4y Y (λw' hs=>(EB a.2.1)) (p1 Y (gs 43 Y Y (λa3=>?_) (λa3=>?_)))))
        ·refine q1 Y (Db C1S Y Y (q:=2) Y) (q1 Y (H2 (es:=[(.string x.Fact.Rel),c]) 0 B4Z Y Y Y Y) (qv pC Y (λw' hs=>(ER (rA hs b) a.2.2)) (P2 Y Y (Dx (Ct (Xq (Xr (Rb Y Y ?_))))))));show((BI x.Fact):Bool)=_;unfold AN;simp_all;try (first|omega|(rw[Bool.eq_iff_iff];simp))
        ·refine n1 Y (n1 Y (n1 Y (P2 Y Y (Dx (Ct (Xq (Xr (Rb Y Y ?_))))))));unfold AN;simp_all;try (first|omega|(rw[Bool.eq_iff_iff];simp))
       ·refine Ck (Xb (Xt (Sr (Pe Y (Ct (Rb Y Y ?_))))));unfold AN;simp_all;try (first|omega|(rw[Bool.eq_iff_iff];simp))
 ·refine n1 Y (n1 Y (n1 Y (n1 Y (n1 Y (P2 Y Y (Dx (Cq (Sr (fl 0 C1y CJ Y (Dx (Cb (Cq (Sr (P2 Y Y (Dx (AH [1,3,16,17] Y (Ce Y (λf=>?_) (λf=>?_))))))))))))))))))
  ·refine Sk (I4 Y (beq_iff_eq.2 f) (Sr (fl 0 C1W BK Y (q1 Y (DO Y Y Y) (p1 Y (EY 23 Y Y (λr=>?_) (λr=>?_)))))))
   ·refine q1 Y (Db C1S Y Y (q:=2) Y) (q1 Y (H2 (es:=[(.string x.Fact.Rel),c]) 0 B4Z Y Y Y Y) (qv pC Y (λw' hs=>(ER (rA hs b) a.2.2)) (P2 Y Y (Dx (Ct (Xq (Xr (Rb Y Y ?_))))))));show((BI x.Fact):Bool)=_;unfold AN;simp_all;try (first|omega|(rw[Bool.eq_iff_iff];simp))
   ·refine n1 Y (n1 Y (n1 Y (P2 Y Y (Dx (Ct (Xq (Xr (Rb Y Y ?_))))))));unfold AN;simp_all;try (first|omega|(rw[Bool.eq_iff_iff];simp))
  ·refine Cr (P2 Y Y (Dx (Ce Y (λs=>?_) (λs=>?_))))
   ·refine Sr (fl 0 C1W BK Y (q1 Y (DO Y Y Y) (p1 Y (EY 23 Y Y (λt=>?_) (λt=>?_)))))
    ·refine q1 Y (Db C1S Y Y (q:=2) Y) (q1 Y (H2 (es:=[(.string x.Fact.Rel),c]) 0 B4Z Y Y Y Y) (qv pC Y (λw' hs=>(ER (rA hs b) a.2.2)) (P2 Y Y (Dx (Ct (Xq (Xr (Rb Y Y ?_))))))));show((BI x.Fact):Bool)=_;unfold AN;simp_all;try (first|omega|(rw[Bool.eq_iff_iff];simp))
    ·refine n1 Y (n1 Y (n1 Y (P2 Y Y (Dx (Ct (Xq (Xr (Rb Y Y ?_))))))));unfold AN;simp_all;try (first|omega|(rw[Bool.eq_iff_iff];simp))
   ·refine Cq (Sr (P2 Y Y (Dx (Ce Y (λg=>?_) (λg=>?_)))))
    ·refine Sk (I4 Y (beq_iff_eq.2 g) (Sr (fl 0 C1W BK Y (qv A4y Y (λw' hs=>(EB a.2.1)) (p1 Y (gs 34 Y Y (λa4=>?_) (λa4=>?_)))))))
     ·refine P3 Y Y Y (Dx (Ct (Xq (Xr (Rb Y Y ?_)))));unfold AN;simp_all;try (first|omega|(rw[Bool.eq_iff_iff];simp))
     ·refine n1 Y (P2 Y Y (Dx (Ct (Xq (Xr (Rb Y Y ?_))))));unfold AN;simp_all;try (first|omega|(rw[Bool.eq_iff_iff];simp))
    ·refine Cr (P2 Y Y (Dx (Ce Y (λu=>?_) (λu=>?_))))
     ·refine Sr (fl 0 C1W BK Y (qv A4y Y (λw' hs=>(EB a.2.1)) (p1 Y (gs 34 Y Y (λa5=>?_) (λa5=>?_)))))
      ·refine P3 Y Y Y (Dx (Ct (Xq (Xr (Rb Y Y ?_)))));unfold AN;simp_all;try (first|omega|(rw[Bool.eq_iff_iff];simp))
      ·refine n1 Y (P2 Y Y (Dx (Ct (Xq (Xr (Rb Y Y ?_))))));unfold AN;simp_all;try (first|omega|(rw[Bool.eq_iff_iff];simp))
     ·refine Cq (Sr (P2 Y Y (Dx (Ce Y (λh=>?_) (λh=>?_)))))
      ·refine Sk (I4 Y (beq_iff_eq.2 h) (Sr (fl 0 C1W BK Y (qv A4y Y (λw' hs=>(EB a.2.1)) (p1 Y (gs 43 Y Y (λa6=>?_) (λa6=>?_)))))))
       ·refine q1 Y (Db C1S Y Y (q:=2) Y) (q1 Y (H2 (es:=[(.string x.Fact.Rel),c]) 0 B4Z Y Y Y Y) (qv pC Y (λw' hs=>(ER (rA hs b) a.2.2)) (P2 Y Y (Dx (Ct (Xq (Xr (Rb Y Y ?_))))))));show((BI x.Fact):Bool)=_;unfold AN;simp_all;try (first|omega|(rw[Bool.eq_iff_iff];simp))
       ·refine n1 Y (n1 Y (n1 Y (P2 Y Y (Dx (Ct (Xq (Xr (Rb Y Y ?_))))))));unfold AN;simp_all;try (first|omega|(rw[Bool.eq_iff_iff];simp))
      ·refine Cr (P2 Y Y (Dx (Ce Y (λv=>?_) (λv=>?_))))
       ·refine Sr (fl 0 C1W BK Y (qv A4y Y (λw' hs=>(EB a.2.1)) (p1 Y (gs 43 Y Y (λa7=>?_) (λa7=>?_)))))
        ·refine q1 Y (Db C1S Y Y (q:=2) Y) (q1 Y (H2 (es:=[(.string x.Fact.Rel),c]) 0 B4Z Y Y Y Y) (qv pC Y (λw' hs=>(ER (rA hs b) a.2.2)) (P2 Y Y (Dx (Ct (Xq (Xr (Rb Y Y ?_))))))));show((BI x.Fact):Bool)=_;unfold AN;simp_all;try (first|omega|(rw[Bool.eq_iff_iff];simp))
        ·refine n1 Y (n1 Y (n1 Y (P2 Y Y (Dx (Ct (Xq (Xr (Rb Y Y ?_))))))));unfold AN;simp_all;try (first|omega|(rw[Bool.eq_iff_iff];simp))
       ·refine Ck (Xb (Xt (Sr (Pe Y (Ct (Rb Y Y ?_))))));unfold AN;simp_all;try (first|omega|(rw[Bool.eq_iff_iff];simp))
end Go.Sy.Ev1
end
/-
  Engines and their parts: sizes and bounds.
  Conditions: none.
-/
section
namespace Go.Sy
def DD{α:Type}(c:α->Nat)(l:List α):Nat:=l.length+AI c l
def LR{α:Type}(p:α->Prop)(l:List α):Prop:=∀x∈l,p x
theorem C8{α:Type}{c:α->Nat}{l:List α}{x:α}(h:x∈l):c x<=AI c l:=VO (List.mem_map_of_mem h)
def E8(p:Pattern):Nat:=p.Rel.size+M9 p.Args
def IP(p:Pattern):Prop:=VP p.Rel/\A1i p.Args
def BW(x:Cond):Nat:=E8 x.Pattern+x.Left.size+x.Right.size
def LB(x:Cond):Prop:=okI x.Kind/\IP x.Pattern/\VP x.Left/\VP x.Right
def CV(x:Action):Nat:=E8 x.Pattern
def QB(x:Action):Prop:=okI x.Kind/\IP x.Pattern
def BG(r:Rule):Nat:=r.Name.size+DD BW r.If+DD CV r.Then
def H9(r:Rule):Prop:=VP r.Name/\okI r.Priority/\LR LB r.If/\LR QB r.Then
def CM(s:Stamp):Nat:=F9 s.Fact
def MA(s:Stamp):Prop:=P9 s.Fact/\okI s.Time
def DG(f:Firing):Nat:=f.Rule.size+f.Times.length
def TX(f:Firing):Prop:=VP f.Rule/\LR okI f.Times
def DI(e:Engine):Nat:=DD BG e.Rules+DD CM e.Memory+DD DG e.Fired+DD L9 e.Log
def QC(e:Engine):Prop:=LR H9 e.Rules/\LR MA e.Memory/\okI e.Clock/\LR TX e.Fired/\True/\LR wK e.Log
end Go.Sy
end
