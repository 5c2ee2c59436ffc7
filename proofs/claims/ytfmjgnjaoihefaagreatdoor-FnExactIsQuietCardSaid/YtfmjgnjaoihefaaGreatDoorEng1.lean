/-
  Contracts of functions of the program, walked (printed by a program of ours).
  Conditions: those that each theorem states.
-/
import Derived.Test.YtfmjgnjaoihefaaGreatDoorFct
import Derived.Test.YtfmjgnjaoihefaaGreatDoorEv1
import Derived.Test.YtfmjgnjaoihefaaGreatDoorEv2
import Derived.Test.YtfmjgnjaoihefaaGreatDoorRul
import Derived.Test.YtfmjgnjaoihefaaGreatDoorOwn2
set_option linter.unusedVariables false
set_option maxRecDepth 20000
namespace Go.Sy.Eng1
open Go Go.RowKit Go.Proofs Go.Sy
open Go.Sy.Bel1 Go.Sy.Ev1 Go.Sy.Ev2
theorem J9{w:World}{s:ByteArray}:Cy 173 [(.string s)] w (Val w (.bool (BM s))):=by
 refine enter 16 Tryz.func173 Y Y Y (Sr (Pe Y (Sr (p1 Y (q1 Y (FZ F5 Y Y) (P2 Y Y (EY 6 Y Y (λa=>?_) (λa=>?_))))))))
 ·refine p1 Y (q1 Y (HL (j:=0) F5 Y Y Y Y (by omega)) (P3 Y Y Y (oV 11 Y Y (λb=>?_) (λb=>?_))))
  ·refine p1 Y (q1 Y (oU (k:=1) F5 Y Y Y Y (by omega)) (qv P4 Y (λw' hs=>FC) (P2 Y Y (Dx (Ct (Rb Y Y ?_))))));show((BA (s.extract 1 s.size)):Bool)=_;unfold BM;simp_all;try (intro h;omega)
  ·refine n1 Y (n1 Y (n1 Y (P2 Y Y (Dx (Ct (Rb Y Y ?_))))));unfold BM;simp_all;try (intro h;omega)
 ·refine n1 Y (n1 Y (n1 Y (P2 Y Y (n1 Y (n1 Y (n1 Y (P2 Y Y (Dx (Ct (Rb Y Y ?_))))))))));unfold BM;simp_all;try (intro h;omega)
theorem GQ{w:World}{s:ByteArray}(c:s.size<=9223372036854775807):Cy 211 [(.string s)] w (Val w (.bool (BM s))):=by
 refine enter 16 Tryz.func211 Y Y Y (Sr (Pe Y (Sr (p1 Y (q1 Y (FZ F5 Y Y) (P2 Y Y (EY 6 Y Y (λa=>?_) (λa=>?_))))))))
 ·refine p1 Y (q1 Y (HL (j:=0) F5 Y Y Y Y (by omega)) (P3 Y Y Y (oV 11 Y Y (λb=>?_) (λb=>?_))))
  ·refine p1 Y (q1 Y (oU (k:=1) F5 Y Y Y Y (by omega)) (qv P5 Y (λw' hs=>(FD (by rw[ByteArray.size_extract];omega))) (P2 Y Y (Dx (Ct (Rb Y Y ?_))))));show((BA (s.extract 1 s.size)):Bool)=_;unfold BM;simp_all;try (intro h;omega)
  ·refine n1 Y (n1 Y (n1 Y (P2 Y Y (Dx (Ct (Rb Y Y ?_))))));unfold BM;simp_all;try (intro h;omega)
 ·refine n1 Y (n1 Y (n1 Y (P2 Y Y (n1 Y (n1 Y (n1 Y (P2 Y Y (Dx (Ct (Rb Y Y ?_))))))))));unfold BM;simp_all;try (intro h;omega)
theorem GR{w:World}{s:ByteArray}:Cy 172 [(.string s)] w (Val w (.bool (EP s))):=by
 refine enter 9 Tryz.func172 Y Y Y (Sr (Pe Y (Sr (p1 Y (qv P4 Y (λw' hs=>FC) (p1 Y (gs 5 Y Y (λh1=>?_) (λh1=>?_))))))))
 ·refine n1 Y (n1 Y (P2 Y Y (Dx (Ct (Rb Y Y ?_)))));unfold EP;simp_all
 ·refine p1 Y (qv aZ Y (λw' hs=>J9) (P2 Y Y (Dx (Ct (Rb Y Y ?_)))));show((BM s):Bool)=_;unfold EP;simp_all
theorem GT{w:World}{s:ByteArray}(a:s.size<=9223372036854775807):Cy 210 [(.string s)] w (Val w (.bool (EP s))):=by
 refine enter 9 Tryz.func210 Y Y Y (Sr (Pe Y (Sr (p1 Y (qv P5 Y (λw' hs=>(FD ‹_›)) (p1 Y (gs 5 Y Y (λh1=>?_) (λh1=>?_))))))))
 ·refine n1 Y (n1 Y (P2 Y Y (Dx (Ct (Rb Y Y ?_)))));unfold EP;simp_all
 ·refine p1 Y (qv SD Y (λw' hs=>(GQ ‹_›)) (P2 Y Y (Dx (Ct (Rb Y Y ?_)))));show((BM s):Bool)=_;unfold EP;simp_all
theorem GU{w:World}{d:List Value}{p:Pattern}(f:Gd.rd w d p):Cy 113 [(.agg d.toArray)] w (Val w (.bool (CK p))):=by
 obtain⟨g,rfl,a⟩:=B8 f;have s:=rM a;refine enter 26 Tryz.func113 Y Y Y (Sr (bX Y λg4=>?_));refine Pe Y (Dh ([bx g4 [(.string p.Rel),g]]) Y (Cq (Sr (fl 0 H6 BK Y (qv M0 Y (λw' hs=>EA) (P2 Y Y (JQ 9 Y Y (λm=>?_) (λm=>?_))))))))
 ·refine n1 Y (n1 Y (n1 Y (n1 Y (Pe Y (GF Y (Sr (Pe Y (Ct (Xr (Rb Y Y ?_))))))))));unfold CK;simp_all
 ·refine fl 0 C4 B5 Y (dl AU Y (AE a) (P2 Y Y (Dx (Cd Y (λo=>?_) (λo=>?_)))))
  ·refine Sr (Pe Y (Ct (Xr (Rb Y Y ?_))));unfold CK;rw[decide_eq_false (by omega:¬p.Args.length<=3)];simp
  ·refine Sk (Cq (Sr (fl 0 C4 B5 Y (dl AU Y (AE a) (Pe Y (Cb (Cl (λm_ ac w'=>∃(k:Nat),(k<=p.Args.length)/\(∀i,i<k->∀y,p.Args[i]?=some y->EP y=true)/\m_=p.Args.length-k/\Fits ac 26 [(16,g),(17,(nv p.Args.length)),(18,(nv k))]/\St w ([bx g4 [(.string p.Rel),g]]) w') ?_ ?_)))))))
   ·refine λac w' hf hs=>⟨_,0,?_,?_,Y,hf.wk Y,hs⟩
    ·omega
    ·intro i hi;omega
   ·rintro m_ ac w' ⟨k,hk,hi,rfl,hf,hs⟩;refine D.use ?_ hf hs;clear hf hs ac w';refine Sr (Pe Y (Cq (Cd Y (λq=>?_) (λq=>?_))))
    ·refine Sk (Cq (Cb (Sr ?_)));obtain⟨a0,c⟩:=sI p.Args k;obtain⟨r,at9,e⟩:=AC (n:=1) rfl a c;obtain rfl:r=[.string a0]:=e;refine q1 Y (AJ (l:=p.Args) (j:=k) AU Y Y Y (λw' hs=>(rA hs a)) Y (lS c)) (q1 Y (HI BK Y Y at9 Y) (Pe Y (Sr (p1 Y (qv TS Y (λw' hs=>GR) (Pe Y (CN Y (λb=>?_) (λb=>?_))))))))
     ·refine Sr (Pe Y (Ct (Xq (Xr (Xr (Xq (Xr (Rb Y Y ?_))))))));unfold CK;rw[S6 (p:=EP) c b];simp
     ·refine Ck (Xb (Xt (Cr (ad (k+1) Y (Pe Y (λac w' hf hs=>⟨_,?_,k+1,?_,?_,Y,hf.wk Y,hs⟩))))))
      ·omega
      ·omega
      ·refine AF hi ?_;intro y hy;obtain rfl:y=a0:=Option.some.inj (hy.symm.trans c);exact b
    ·refine Cx (Xx (Xx (Xe (Xt (Sr (Pe Y (Ct (Rb Y Y ?_))))))));unfold CK;rw[IN (p:=EP) (λi h=>hi i (by omega)),decide_eq_true (by omega:p.Args.length<=3)];simp_all
theorem GV{w:World}{d:List Value}{p:Pattern}(f:Gd.rd w d p)(e:IP p):Cy 152 [(.agg d.toArray)] w (Val w (.bool (CK p))):=by
 obtain⟨t,rfl,a⟩:=B8 f;have u:=rM a;refine enter 27 Tryz.func152 Y Y Y (Sr (bX Y λg4=>?_));refine Pe Y (Dh ([bx g4 [(.string p.Rel),t]]) Y (Cq (Sr (Pe Y (Cb (Cl (λm_ ac w'=>∃(k:Nat),(k<=p.Args.length)/\(∀i,i<k->∀y,p.Args[i]?=some y->EP y=true)/\m_=p.Args.length-k/\Fits ac 27 [(1,(pv g4)),(3,(nv k))]/\St w ([bx g4 [(.string p.Rel),t]]) w') ?_ ?_))))))
 ·refine λac w' hf hs=>⟨_,0,?_,?_,Y,hf.wk Y,hs⟩
  ·omega
  ·intro i hi;omega
 ·rintro m_ ac w' ⟨k,hk,hi,rfl,hf,hs⟩;refine D.use ?_ hf hs;clear hf hs ac w';refine Cq (Sr (p1 Y (fl 0 C4 B5 Y (dl AU Y (AE a) (Pe Y (Cd Y (λg=>?_) (λg=>?_)))))))
  ·refine Sk (Cq (Cb (Sr (fl 0 C4 B5 Y (p1 Y ?_)))));obtain⟨a0,b⟩:=sI p.Args k;have m:a0.size<=9223372036854775807:=e.2 _ (List.mem_of_getElem? b);obtain⟨o,q,r⟩:=AC (n:=1) rfl a b;obtain rfl:o=[.string a0]:=r;refine q1 Y (AJ (l:=p.Args) (j:=k) AU Y Y Y (λw' hs=>(rA hs a)) Y (lS b)) (q1 Y (HI BK Y Y q Y) (qv TT Y (λw' hs=>(GT m)) (Pe Y (CN Y (λc=>?_) (λc=>?_)))))
   ·refine Sr (Pe Y (Ct (Xq (Xr (Xr (Xq (Xr (Rb Y Y ?_))))))));unfold CK;rw[S6 (p:=EP) b c];simp
   ·refine Ck (Xb (Xt (Cr (p1 Y (ad (k+1) Y (Pe Y (λac w' hf hs=>⟨_,?_,k+1,?_,?_,Y,hf.wk Y,hs⟩)))))))
    ·omega
    ·omega
    ·refine AF hi ?_;intro y hy;obtain rfl:y=a0:=Option.some.inj (hy.symm.trans b);exact c
  ·refine Cx (Xx (Xx (Xe (Xt (Sr (fl 0 H6 BK Y (qv M1 Y (λw' hs=>(EB e.1)) (p1 Y (gs 21 Y Y (λs=>?_) (λs=>?_))))))))))
   ·refine fl 0 C4 B5 Y (dl AU Y (AE a) (P3 Y Y Y (Dx (Ct (Rb Y Y ?_)))));show((decide ((((p.Args.length:Nat):Int):Int)<=3)):Bool)=_;unfold CK;rw[IN (p:=EP) (λi h=>hi i (by omega))];simp_all;try omega
   ·refine n1 Y (n1 Y (n1 Y (n1 Y (P2 Y Y (Dx (Ct (Rb Y Y ?_)))))));unfold CK;rw[IN (p:=EP) (λi h=>hi i (by omega))];simp_all;try omega
theorem G4{w:World}{a:List Value}{p:Pattern}(c:Gd.rd w a p):Cy 251 [(.agg a.toArray)] w (Val w (.bool (B6 p))):=by
 obtain⟨e,rfl,b⟩:=B8 c;have f:=rM b;refine enter 12 Tryz.func251 Y Y Y (Sr (bX Y λg4=>?_));refine Pe Y (Dh ([bx g4 [(.string p.Rel),e]]) Y (Sr (fl 0 H6 BK Y (q1 Y (DO Y Y Y) (p1 Y (EY 6 Y Y (λd=>?_) (λd=>?_)))))))
 ·refine fl 0 C4 B5 Y (dl AU Y (AE b) (P3 Y Y Y (Dx (Ct (Rb Y Y ?_)))));show(((((p.Args.length:Nat):Int):Int)==0):Bool)=_;unfold B6;simp_all;try (rw[Bool.eq_iff_iff];simp)
 ·refine n1 Y (n1 Y (n1 Y (n1 Y (P2 Y Y (Dx (Ct (Rb Y Y ?_)))))));unfold B6;simp_all;try (rw[Bool.eq_iff_iff];simp)
set_option maxHeartbeats 4000000 in
theorem NJ{w:World}{e:List Value}{x:Cond}(f:Gd.rd w e x):Cy 216 [(.agg e.toArray)] w (Val w (.bool (BD x))):=by
 obtain⟨d,rfl,k⟩:=A8 f;have u:=rM k;have a:=AK f;refine enter 38 Tryz.func216 Y Y Y (Sr (bX Y λg5=>?_));refine Pe Y (Dh ([bx g5 [(iv x.Kind),(.string x.Pattern.Rel),d,(.string x.Left),(.string x.Right)]]) Y (Cq (Sr (fl 0 C0 CJ Y (Dx (Cb (Cq (Sr (P2 Y Y (Dx (Ce Y (λg=>?_) (λg=>?_))))))))))))
 ·refine Sk (I4 Y (beq_iff_eq.2 g) (Sr (q1 Y (Db CB Y Y (q:=1) Y) (q1 Y (H2 (es:=[(.string x.Pattern.Rel),d]) 0 HA Y Y Y Y) (qv bA Y (λw' hs=>(GU (rA hs a))) (p1 Y (gs 11 Y Y (λv=>?_) (λv=>?_))))))))
  ·refine fl 0 EO BK Y (q1 Y (DO Y Y Y) (P2 Y Y (EY 16 Y Y (λl=>?_) (λl=>?_))))
   ·refine fl 0 D5 BK Y (q1 Y (DO Y Y Y) (P2 Y Y (Dx (Ct (Xq (Xr (Rb Y Y ?_)))))));show((decide ((x.Right:ByteArray)=⟨#[]⟩)):Bool)=_;unfold BD B6;simp_all
   ·refine n1 Y (n1 Y (n1 Y (P2 Y Y (Dx (Ct (Xq (Xr (Rb Y Y ?_))))))));unfold BD B6;simp_all
  ·refine n1 Y (n1 Y (n1 Y (P2 Y Y (n1 Y (n1 Y (n1 Y (P2 Y Y (Dx (Ct (Xq (Xr (Rb Y Y ?_))))))))))));unfold BD B6;simp_all
 ·refine Cr (P2 Y Y (Dx (Ce Y (λh=>?_) (λh=>?_))))
  ·refine Sr (q1 Y (Db CB Y Y (q:=1) Y) (q1 Y (H2 (es:=[(.string x.Pattern.Rel),d]) 0 HA Y Y Y Y) (qv bA Y (λw' hs=>(GU (rA hs a))) (p1 Y (gs 11 Y Y (λm=>?_) (λm=>?_))))))
   ·refine fl 0 EO BK Y (q1 Y (DO Y Y Y) (P2 Y Y (EY 16 Y Y (λi=>?_) (λi=>?_))))
    ·refine fl 0 D5 BK Y (q1 Y (DO Y Y Y) (P2 Y Y (Dx (Ct (Xq (Xr (Rb Y Y ?_)))))));show((decide ((x.Right:ByteArray)=⟨#[]⟩)):Bool)=_;unfold BD B6;simp_all
    ·refine n1 Y (n1 Y (n1 Y (P2 Y Y (Dx (Ct (Xq (Xr (Rb Y Y ?_))))))));unfold BD B6;simp_all
   ·refine n1 Y (n1 Y (n1 Y (P2 Y Y (n1 Y (n1 Y (n1 Y (P2 Y Y (Dx (Ct (Xq (Xr (Rb Y Y ?_))))))))))));unfold BD B6;simp_all
  ·refine Cq (Sr (P2 Y Y (Dx (Ce Y (λb=>?_) (λb=>?_)))))
   ·refine Sk (I4 Y (beq_iff_eq.2 b) (Sr (fl 0 EO BK Y (qv TS Y (λw' hs=>GR) (p1 Y (gs 28 Y Y (λn=>?_) (λn=>?_)))))))
    ·refine fl 0 D5 BK Y (qv TS Y (λw' hs=>GR) (P2 Y Y (gs 33 Y Y (λo=>?_) (λo=>?_))))
     ·refine q1 Y (Db CB Y Y (q:=1) Y) (q1 Y (H2 (es:=[(.string x.Pattern.Rel),d]) 0 HA Y Y Y Y) (qv iU Y (λw' hs=>(G4 (rA hs a))) (P2 Y Y (Dx (Ct (Xq (Xr (Rb Y Y ?_))))))));show((B6 x.Pattern):Bool)=_;unfold BD B6;simp_all
     ·refine n1 Y (n1 Y (n1 Y (P2 Y Y (Dx (Ct (Xq (Xr (Rb Y Y ?_))))))));unfold BD B6;simp_all
    ·refine n1 Y (n1 Y (n1 Y (P2 Y Y (n1 Y (n1 Y (n1 Y (P2 Y Y (Dx (Ct (Xq (Xr (Rb Y Y ?_))))))))))));unfold BD B6;simp_all
   ·refine Sr (P2 Y Y (Dx (Ce Y (λc=>?_) (λc=>?_))))
    ·refine Sk (I4 Y (beq_iff_eq.2 c) (Sr (fl 0 EO BK Y (qv TS Y (λw' hs=>GR) (p1 Y (gs 28 Y Y (λp=>?_) (λp=>?_)))))))
     ·refine fl 0 D5 BK Y (qv TS Y (λw' hs=>GR) (P2 Y Y (gs 33 Y Y (λr=>?_) (λr=>?_))))
      ·refine q1 Y (Db CB Y Y (q:=1) Y) (q1 Y (H2 (es:=[(.string x.Pattern.Rel),d]) 0 HA Y Y Y Y) (qv iU Y (λw' hs=>(G4 (rA hs a))) (P2 Y Y (Dx (Ct (Xq (Xr (Rb Y Y ?_))))))));show((B6 x.Pattern):Bool)=_;unfold BD B6;simp_all
      ·refine n1 Y (n1 Y (n1 Y (P2 Y Y (Dx (Ct (Xq (Xr (Rb Y Y ?_))))))));unfold BD B6;simp_all
     ·refine n1 Y (n1 Y (n1 Y (P2 Y Y (n1 Y (n1 Y (n1 Y (P2 Y Y (Dx (Ct (Xq (Xr (Rb Y Y ?_))))))))))));unfold BD B6;simp_all
    ·refine Cr (P2 Y Y (Dx (Ce Y (λj=>?_) (λj=>?_))))
     ·refine Sr (fl 0 EO BK Y (qv TS Y (λw' hs=>GR) (p1 Y (gs 28 Y Y (λs=>?_) (λs=>?_)))))
      ·refine fl 0 D5 BK Y (qv TS Y (λw' hs=>GR) (P2 Y Y (gs 33 Y Y (λt=>?_) (λt=>?_))))
       ·refine q1 Y (Db CB Y Y (q:=1) Y) (q1 Y (H2 (es:=[(.string x.Pattern.Rel),d]) 0 HA Y Y Y Y) (qv iU Y (λw' hs=>(G4 (rA hs a))) (P2 Y Y (Dx (Ct (Xq (Xr (Rb Y Y ?_))))))));show((B6 x.Pattern):Bool)=_;unfold BD B6;simp_all
       ·refine n1 Y (n1 Y (n1 Y (P2 Y Y (Dx (Ct (Xq (Xr (Rb Y Y ?_))))))));unfold BD B6;simp_all
      ·refine n1 Y (n1 Y (n1 Y (P2 Y Y (n1 Y (n1 Y (n1 Y (P2 Y Y (Dx (Ct (Xq (Xr (Rb Y Y ?_))))))))))));unfold BD B6;simp_all
     ·refine Ck (Xb (Xt (Sr (Pe Y (Ct (Rb Y Y ?_))))));unfold BD B6;simp_all
set_option maxHeartbeats 4000000 in
theorem NK{w:World}{e:List Value}{x:Cond}(f:Gd.rd w e x)(a:LB x):Cy 201 [(.agg e.toArray)] w (Val w (.bool (BD x))):=by
 obtain⟨s,rfl,b⟩:=A8 f;have a0:=rM b;have g:=AK f;refine enter 46 Tryz.func201 Y Y Y (Sr (bX Y λg5=>?_));refine Pe Y (Dh ([bx g5 [(iv x.Kind),(.string x.Pattern.Rel),s,(.string x.Left),(.string x.Right)]]) Y (Cq (Sr (fl 0 C0 CJ Y (Dx (Cb (Cq (Sr (P2 Y Y (Dx (Ce Y (λh=>?_) (λh=>?_))))))))))))
 ·refine Sk (I4 Y (beq_iff_eq.2 h) (Sr (q1 Y (Db CB Y Y (q:=1) Y) (q1 Y (H2 (es:=[(.string x.Pattern.Rel),s]) 0 HA Y Y Y Y) (qv bB Y (λw' hs=>(GV (rA hs g) a.2.1)) (p1 Y (gs 11 Y Y (λh8=>?_) (λh8=>?_))))))))
  ·refine fl 0 EO BK Y (q1 Y (DO Y Y Y) (P2 Y Y (EY 16 Y Y (λt=>?_) (λt=>?_))))
   ·refine fl 0 D5 BK Y (q1 Y (DO Y Y Y) (P2 Y Y (Dx (Ct (Xq (Xr (Rb Y Y ?_)))))));show((decide ((x.Right:ByteArray)=⟨#[]⟩)):Bool)=_;unfold BD B6;simp_all
   ·refine n1 Y (n1 Y (n1 Y (P2 Y Y (Dx (Ct (Xq (Xr (Rb Y Y ?_))))))));unfold BD B6;simp_all
  ·refine n1 Y (n1 Y (n1 Y (P2 Y Y (n1 Y (n1 Y (n1 Y (P2 Y Y (Dx (Ct (Xq (Xr (Rb Y Y ?_))))))))))));unfold BD B6;simp_all
 ·refine Cr (P2 Y Y (Dx (Ce Y (λi=>?_) (λi=>?_))))
  ·refine Sr (q1 Y (Db CB Y Y (q:=1) Y) (q1 Y (H2 (es:=[(.string x.Pattern.Rel),s]) 0 HA Y Y Y Y) (qv bB Y (λw' hs=>(GV (rA hs g) a.2.1)) (p1 Y (gs 11 Y Y (λu=>?_) (λu=>?_))))))
   ·refine fl 0 EO BK Y (q1 Y (DO Y Y Y) (P2 Y Y (EY 16 Y Y (λj=>?_) (λj=>?_))))
    ·refine fl 0 D5 BK Y (q1 Y (DO Y Y Y) (P2 Y Y (Dx (Ct (Xq (Xr (Rb Y Y ?_)))))));show((decide ((x.Right:ByteArray)=⟨#[]⟩)):Bool)=_;unfold BD B6;simp_all
    ·refine n1 Y (n1 Y (n1 Y (P2 Y Y (Dx (Ct (Xq (Xr (Rb Y Y ?_))))))));unfold BD B6;simp_all
   ·refine n1 Y (n1 Y (n1 Y (P2 Y Y (n1 Y (n1 Y (n1 Y (P2 Y Y (Dx (Ct (Xq (Xr (Rb Y Y ?_))))))))))));unfold BD B6;simp_all
  ·refine Cq (Sr (P2 Y Y (Dx (Ce Y (λc=>?_) (λc=>?_)))))
   ·refine Sk (I4 Y (beq_iff_eq.2 c) (Sr (q1 Y (Db CB Y Y (q:=1) Y) (fl 0 H6 BK Y (q1 Y (DO Y Y Y) (p1 Y (EY 29 Y Y (λk=>?_) (λk=>?_))))))))
    ·refine q1 Y (Db CB Y Y (q:=1) Y) (fl 0 C4 B5 Y (dl AU Y (AE b) (P3 Y Y Y (oV 36 Y Y (λl=>?_) (λl=>?_)))))
     ·refine fl 0 EO BK Y (qv TT Y (λw' hs=>(GT (by exact a.2.2.1))) (P2 Y Y (gs 41 Y Y (λv=>?_) (λv=>?_))))
      ·refine fl 0 D5 BK Y (qv TT Y (λw' hs=>(GT (by exact a.2.2.2))) (P2 Y Y (Dx (Ct (Xq (Xr (Rb Y Y ?_)))))));show((EP x.Right):Bool)=_;unfold BD B6;simp_all
      ·refine n1 Y (n1 Y (n1 Y (P2 Y Y (Dx (Ct (Xq (Xr (Rb Y Y ?_))))))));unfold BD B6;simp_all
     ·refine n1 Y (n1 Y (n1 Y (P2 Y Y (n1 Y (n1 Y (n1 Y (P2 Y Y (Dx (Ct (Xq (Xr (Rb Y Y ?_))))))))))));unfold BD B6;simp_all
    ·refine n1 Y (n1 Y (n1 Y (n1 Y (n1 Y (P2 Y Y (n1 Y (n1 Y (n1 Y (P2 Y Y (n1 Y (n1 Y (n1 Y (P2 Y Y (Dx (Ct (Xq (Xr (Rb Y Y ?_))))))))))))))))));unfold BD B6;simp_all
   ·refine Sr (P2 Y Y (Dx (Ce Y (λd=>?_) (λd=>?_))))
    ·refine Sk (I4 Y (beq_iff_eq.2 d) (Sr (q1 Y (Db CB Y Y (q:=1) Y) (fl 0 H6 BK Y (q1 Y (DO Y Y Y) (p1 Y (EY 29 Y Y (λm=>?_) (λm=>?_))))))))
     ·refine q1 Y (Db CB Y Y (q:=1) Y) (fl 0 C4 B5 Y (dl AU Y (AE b) (P3 Y Y Y (oV 36 Y Y (λn=>?_) (λn=>?_)))))
      ·refine fl 0 EO BK Y (qv TT Y (λw' hs=>(GT (by exact a.2.2.1))) (P2 Y Y (gs 41 Y Y (λy=>?_) (λy=>?_))))
       ·refine fl 0 D5 BK Y (qv TT Y (λw' hs=>(GT (by exact a.2.2.2))) (P2 Y Y (Dx (Ct (Xq (Xr (Rb Y Y ?_)))))));show((EP x.Right):Bool)=_;unfold BD B6;simp_all
       ·refine n1 Y (n1 Y (n1 Y (P2 Y Y (Dx (Ct (Xq (Xr (Rb Y Y ?_))))))));unfold BD B6;simp_all
      ·refine n1 Y (n1 Y (n1 Y (P2 Y Y (n1 Y (n1 Y (n1 Y (P2 Y Y (Dx (Ct (Xq (Xr (Rb Y Y ?_))))))))))));unfold BD B6;simp_all
     ·refine n1 Y (n1 Y (n1 Y (n1 Y (n1 Y (P2 Y Y (n1 Y (n1 Y (n1 Y (P2 Y Y (n1 Y (n1 Y (n1 Y (P2 Y Y (Dx (Ct (Xq (Xr (Rb Y Y ?_))))))))))))))))));unfold BD B6;simp_all
    ·refine Cr (P2 Y Y (Dx (Ce Y (λo=>?_) (λo=>?_))))
     ·refine Sr (q1 Y (Db CB Y Y (q:=1) Y) (fl 0 H6 BK Y (q1 Y (DO Y Y Y) (p1 Y (EY 29 Y Y (λp=>?_) (λp=>?_))))))
      ·refine q1 Y (Db CB Y Y (q:=1) Y) (fl 0 C4 B5 Y (dl AU Y (AE b) (P3 Y Y Y (oV 36 Y Y (λr=>?_) (λr=>?_)))))
       ·refine fl 0 EO BK Y (qv TT Y (λw' hs=>(GT (by exact a.2.2.1))) (P2 Y Y (gs 41 Y Y (λz=>?_) (λz=>?_))))
        ·refine fl 0 D5 BK Y (qv TT Y (λw' hs=>(GT (by exact a.2.2.2))) (P2 Y Y (Dx (Ct (Xq (Xr (Rb Y Y ?_)))))));show((EP x.Right):Bool)=_;unfold BD B6;simp_all
        ·refine n1 Y (n1 Y (n1 Y (P2 Y Y (Dx (Ct (Xq (Xr (Rb Y Y ?_))))))));unfold BD B6;simp_all
       ·refine n1 Y (n1 Y (n1 Y (P2 Y Y (n1 Y (n1 Y (n1 Y (P2 Y Y (Dx (Ct (Xq (Xr (Rb Y Y ?_))))))))))));unfold BD B6;simp_all
      ·refine n1 Y (n1 Y (n1 Y (n1 Y (n1 Y (P2 Y Y (n1 Y (n1 Y (n1 Y (P2 Y Y (n1 Y (n1 Y (n1 Y (P2 Y Y (Dx (Ct (Xq (Xr (Rb Y Y ?_))))))))))))))))));unfold BD B6;simp_all
     ·refine Ck (Xb (Xt (Sr (Pe Y (Ct (Rb Y Y ?_))))));unfold BD B6;simp_all
theorem NL{w:World}{b:List Value}{x:Cond}(a:Gd.rd w b x)(d:LB x):Cy 204 [(.agg b.toArray)] w (Val w (.bool (IA x))):=by
 obtain⟨e,rfl,c⟩:=A8 a;have f:=rM c;have g:=AK a;refine enter 10 Tryz.func204 Y Y Y (Sr (bX Y λg5=>?_));refine Pe Y (Dh ([bx g5 [(iv x.Kind),(.string x.Pattern.Rel),e,(.string x.Left),(.string x.Right)]]) Y (Sr (q1 Y (C9 0 D4 Y Y Y) (qv pM Y (λw' hs=>(NK (rA hs a) ‹_›)) (p1 Y (gs 5 Y Y (λh=>?_) (λh=>?_)))))))
 ·refine fl 0 C0 CJ Y (P3 Y Y Y (Dx (Ct (Rb Y Y ?_))));show((decide ((3:Int)<=x.Kind)):Bool)=_;unfold IA;simp_all
 ·refine n1 Y (n1 Y (n1 Y (P2 Y Y (Dx (Ct (Rb Y Y ?_))))));unfold IA;simp_all
theorem V7{w:World}{c:List Value}{a:Action}(d:Gd.rd w c a):Cy 219 [(.agg c.toArray)] w (Val w (.bool (D3 a))):=by
 obtain⟨g,rfl,h⟩:=CH d;have j:=rM h;have b:=A9 d;refine enter 16 Tryz.func219 Y Y Y (Sr (bX Y λg5=>?_));refine Pe Y (Dh ([bx g5 [(iv a.Kind),(.string a.Pattern.Rel),g]]) Y (Cq (Sr (fl 0 Q2 CJ Y (Dx (Cb (Cq (Sr (P2 Y Y (Dx (Ce Y (λe=>?_) (λe=>?_))))))))))))
 ·refine Sk (I4 Y (beq_iff_eq.2 e) (Sr (q1 Y (Db GM Y Y (q:=1) Y) (q1 Y (H2 (es:=[(.string a.Pattern.Rel),g]) 0 HA Y Y Y Y) (qv bA Y (λw' hs=>(GU (rA hs b))) (Pe Y (Ct (Xq (Xr (Rb Y Y ?_))))))))));show((CK a.Pattern):Bool)=_;unfold D3 B6;simp_all
 ·refine Cr (P2 Y Y (Dx (Ce Y (λi=>?_) (λi=>?_))))
  ·refine Sr (q1 Y (Db GM Y Y (q:=1) Y) (q1 Y (H2 (es:=[(.string a.Pattern.Rel),g]) 0 HA Y Y Y Y) (qv bA Y (λw' hs=>(GU (rA hs b))) (Pe Y (Ct (Xq (Xr (Rb Y Y ?_))))))));show((CK a.Pattern):Bool)=_;unfold D3 B6;simp_all
  ·refine Sr (P2 Y Y (Dx (Ce Y (λf=>?_) (λf=>?_))))
   ·refine Sr (q1 Y (Db GM Y Y (q:=1) Y) (q1 Y (H2 (es:=[(.string a.Pattern.Rel),g]) 0 HA Y Y Y Y) (qv iU Y (λw' hs=>(G4 (rA hs b))) (Pe Y (Ct (Xq (Xr (Rb Y Y ?_))))))));show((B6 a.Pattern):Bool)=_;unfold D3 B6;simp_all
   ·refine Ck (Xb (Xt (Sr (Pe Y (Ct (Rb Y Y ?_))))));unfold D3 B6;simp_all
theorem V8{w:World}{b:List Value}{a:Action}(c:Gd.rd w b a)(d:QB a):Cy 206 [(.agg b.toArray)] w (Val w (.bool (D3 a))):=by
 obtain⟨k,rfl,e⟩:=CH c;have l:=rM e;have f:=A9 c;refine enter 24 Tryz.func206 Y Y Y (Sr (bX Y λg5=>?_));refine Pe Y (Dh ([bx g5 [(iv a.Kind),(.string a.Pattern.Rel),k]]) Y (Cq (Sr (fl 0 Q2 CJ Y (Dx (Cb (Cq (Sr (P2 Y Y (Dx (Ce Y (λg=>?_) (λg=>?_))))))))))))
 ·refine Sk (I4 Y (beq_iff_eq.2 g) (Sr (q1 Y (Db GM Y Y (q:=1) Y) (q1 Y (H2 (es:=[(.string a.Pattern.Rel),k]) 0 HA Y Y Y Y) (qv bB Y (λw' hs=>(GV (rA hs f) d.2)) (Pe Y (Ct (Xq (Xr (Rb Y Y ?_))))))))));show((CK a.Pattern):Bool)=_;unfold D3 B6;simp_all
 ·refine Cr (P2 Y Y (Dx (Ce Y (λh=>?_) (λh=>?_))))
  ·refine Sr (q1 Y (Db GM Y Y (q:=1) Y) (q1 Y (H2 (es:=[(.string a.Pattern.Rel),k]) 0 HA Y Y Y Y) (qv bB Y (λw' hs=>(GV (rA hs f) d.2)) (Pe Y (Ct (Xq (Xr (Rb Y Y ?_))))))));show((CK a.Pattern):Bool)=_;unfold D3 B6;simp_all
  ·refine Sr (P2 Y Y (Dx (Ce Y (λi=>?_) (λi=>?_))))
   ·refine Sr (q1 Y (Db GM Y Y (q:=1) Y) (fl 0 H6 BK Y (q1 Y (DO Y Y Y) (p1 Y (EY 17 Y Y (λj=>?_) (λj=>?_))))))
    ·refine q1 Y (Db GM Y Y (q:=1) Y) (fl 0 C4 B5 Y (dl AU Y (AE e) (P3 Y Y Y (Dx (Ct (Xq (Xr (Rb Y Y ?_))))))));show(((((a.Pattern.Args.length:Nat):Int):Int)==0):Bool)=_;unfold D3 B6;simp_all;rw[Bool.eq_iff_iff];simp
    ·refine n1 Y (n1 Y (n1 Y (n1 Y (n1 Y (P2 Y Y (Dx (Ct (Xq (Xr (Rb Y Y ?_))))))))));unfold D3 B6;simp_all
   ·refine Ck (Xb (Xt (Sr (Pe Y (Ct (Rb Y Y ?_))))));unfold D3 B6;simp_all
theorem JW{w:World}{b:Value}{l:(List ByteArray)}{s:ByteArray}(a:Gd.rd w [b] l):Cy 221 [b,(.string s)] w (Val w (.bool (H1 l s))):=by
 have m:=rM a;refine enter 17 Tryz.func221 Y Y Y (Sr (Pe Y (Cq (Sr (p1 Y (dl AU Y (AE a) (Pe Y (Cb (Cl (λm_ ac w'=>∃(k:Nat),(k<=l.length)/\(∀i,i<k->l[i]?≠some s)/\m_=l.length-k/\Fits ac 17 [(1,(.string s)),(7,b),(8,(nv l.length)),(9,(nv k))]/\St w ([]) w') ?_ ?_)))))))))
 ·refine λac w' hf hs=>⟨_,0,?_,?_,Y,hf.wk Y,hs⟩
  ·omega
  ·intro i hi;omega
 ·rintro m_ ac w' ⟨k,hk,hi,rfl,hf,hs⟩;refine D.use ?_ hf hs;clear hf hs ac w';refine Sr (Pe Y (Cq (Cd Y (λd=>?_) (λd=>?_))))
  ·refine Sk (Cq (Cb (Sr ?_)));obtain⟨o,c⟩:=sI l k;obtain⟨e,at4,f⟩:=AC (n:=1) rfl a c;obtain rfl:e=[.string o]:=f;refine q1 Y (AJ (l:=l) (j:=k) AU Y Y Y (λw' hs=>(rA hs a)) Y (lS c)) (q1 Y (HI BK Y Y at4 Y) (Pe Y (Sr (P2 Y Y (q1 Y (DO Y Y Y) (Dx (Cd Y (λg=>?_) (λg=>?_))))))))
   ·refine Sr (Pe Y (Ct (Xq (Xr (Xr (Xq (Xr (Rb Y Y ?_))))))));exact qU c ‹_›
   ·refine Ck (Xb (Xt (Cr (ad (k+1) Y (Pe Y (λac w' hf hs=>⟨_,?_,k+1,?_,?_,Y,hf.wk Y,hs⟩))))))
    ·omega
    ·omega
    ·refine AF hi ?_;intro y;simp_all
  ·refine Cx (Xx (Xx (Xe (Xt (Sr (Pe Y (Ct (Rb Y Y ?_))))))));exact qV (λi h=>hi i (by omega))
theorem GW{w:World}{b:Value}{l:(List ByteArray)}{s:ByteArray}(a:Gd.rd w [b] l):Cy 203 [b,(.string s)] w (Val w (.bool (H1 l s))):=by
 have m:=rM a;refine enter 18 Tryz.func203 Y Y Y (Sr (Pe Y (Cq (Sr (Pe Y (Cb (Cl (λm_ ac w'=>∃(k:Nat),(k<=l.length)/\(∀i,i<k->l[i]?≠some s)/\m_=l.length-k/\Fits ac 18 [(0,b),(1,(.string s)),(5,(nv k))]/\St w ([]) w') ?_ ?_)))))))
 ·refine λac w' hf hs=>⟨_,0,?_,?_,Y,hf.wk Y,hs⟩
  ·omega
  ·intro i hi;omega
 ·rintro m_ ac w' ⟨k,hk,hi,rfl,hf,hs⟩;refine D.use ?_ hf hs;clear hf hs ac w';refine Cq (Sr (P2 Y Y (dl AU Y (AE a) (Pe Y (Cd Y (λd=>?_) (λd=>?_))))))
  ·refine Sk (Cq (Cb (Sr (P2 Y Y ?_))));obtain⟨o,c⟩:=sI l k;obtain⟨e,at4,f⟩:=AC (n:=1) rfl a c;obtain rfl:e=[.string o]:=f;refine q1 Y (AJ (l:=l) (j:=k) AU Y Y Y (λw' hs=>(rA hs a)) Y (lS c)) (q1 Y (HI BK Y Y at4 Y) (p1 Y (q1 Y (DO Y Y Y) (Dx (Cd Y (λg=>?_) (λg=>?_))))))
   ·refine Sr (Pe Y (Ct (Xq (Xr (Xr (Xq (Xr (Rb Y Y ?_))))))));exact qU c ‹_›
   ·refine Ck (Xb (Xt (Cr (p1 Y (ad (k+1) Y (Pe Y (λac w' hf hs=>⟨_,?_,k+1,?_,?_,Y,hf.wk Y,hs⟩)))))))
    ·omega
    ·omega
    ·refine AF hi ?_;intro y;simp_all
  ·refine Cx (Xx (Xx (Xe (Xt (Sr (Pe Y (Ct (Rb Y Y ?_))))))));exact qV (λi h=>hi i (by omega))
theorem HR{w:World}{f:Value}{l:(List ByteArray)}{s:ByteArray}(b:Gd.rd w [f] l)(a0:l.length<=4294967296):Cy 248 [f,(.string s)] w (HH w (CE l s:List ByteArray)):=by
 have a1:=rM b;refine enter 49 Tryz.func248 Y Y Y (Sr (Pe Y (Sr (li Y (FL (α:=ByteArray) AU Y Y Y λv2=>?_)))));refine Pe Y (Dh ([ov [v2] ([]:(List ByteArray))]) Y (Sr (Pe Y (Cq (Sr (Pe Y (Cb (Cl (λm_ ac w'=>∃(k:Nat),∃(dn:Bool),∃(v:Value),(k<=l.length)/\(dn=LS l s k)/\m_=l.length-k/\Fits ac 49 [(0,f),(1,(.string s)),(5,v),(6,(.bool dn)),(7,(nv k))]/\St w ([ov [v] (FE l s k:(List ByteArray))]) w') ?_ ?_))))))))
 ·refine A3 0 Y (show([]:(List ByteArray))=FE l s 0 from by rfl) (λac w' hf hs=>⟨_,0,false,v2,?_,?_,Y,hf.wk Y,hs⟩)
  ·omega
  ·rfl
 ·rintro m_ ac w' ⟨k,dn,v,hk,hd,rfl,hf,hs⟩;refine D.use ?_ hf hs;clear hf hs ac w';have hcl:=mC l s k;refine Cq (Sr (P2 Y Y (dl AU Y (AE b) (Pe Y (Dh ([_]) Y (Cd Y (λt=>?_) (λt=>?_)))))))
  ·refine Sk (Cq (Cb (Cq (Sr (P3 Y Y Y (JQ 17 Y Y (λu=>?_) (λu=>?_)))))))
   ·refine P2 Y Y ?_;obtain⟨d,a⟩:=sI l k;obtain⟨x,at8,y⟩:=AC (n:=1) rfl b a;obtain rfl:x=[.string d]:=y;refine q1 Y (AJ (l:=l) (j:=k) AU Y Y Y (λw' hs=>(rA hs b)) Y (lS a)) (q1 Y (HI BK Y Y at8 Y) (p1 Y (q1 Y (oP Y Y Y) (Pe Y (CN Y (λg=>?_) (λg=>?_))))))
    ·refine Sr (Pe Y (Sr (P2 Y Y (q1 Y (AJ (l:=l) (j:=k) AU Y Y Y (λw' hs=>(rA hs b)) Y (lS a)) (q1 Y (HI BK Y Y at8 Y) (p1 Y (q1 Y (E5 Y Y Y) (Dx (AH [0,1,5,6,7,30] Y (R8 Y (λh=>?_) (λh=>?_)))))))))))
     ·refine Cr (P2 Y Y (li Y (FF AU QZ Y (by decide) (by decide) Y Y Y Y Y Y λg12=>?_)));refine OI s (AG [2,0,1] Y (li Y (GZ AU QZ Y (by decide) Y Y Y Y Y Y (by omega) (by omega) λz=>?_)));refine Pe Y (Dh ([ov [z] ((FE l s k)++ [s]:(List ByteArray))]) Y (Cr (P3 Y Y Y (q1 Y (AJ (l:=l) (j:=k) AU Y Y Y (λw' hs=>(rA hs b)) Y (lS a)) (q1 Y (HI BK Y Y at8 Y) (li Y (FF AU QZ Y (by decide) (by decide) Y Y Y Y Y Y λg14=>?_)))))));refine OI d (AG [2,0,1] Y (li Y (GZ AU QZ Y (by decide) Y Y Y Y Y Y (by simp;omega) (by simp;omega) λi=>?_)));refine p1 Y (De (Xb (Xt (Dh ([ov [i] (((FE l s k)++ [s])++ [d]:(List ByteArray))]) Y (Cr (p1 Y (ad (k+1) Y (Pe Y (A3 0 Y (show(((FE l s k)++ [s])++ [d]:(List ByteArray))=FE l s (k+1) from by exact mB a (by simp_all) (by simp_all) ‹_›) (λac w' hf hs=>⟨_,?_,k+1,true,i,?_,?_,Y,hf.wk Y,hs⟩))))))))))
      ·omega
      ·omega
      ·exact S9 a hd (by simp_all)
     ·refine Sk (Cr (P3 Y Y Y (q1 Y (AJ (l:=l) (j:=k) AU Y Y Y (λw' hs=>(rA hs b)) Y (lS a)) (q1 Y (HI BK Y Y at8 Y) (li Y (FF AU QZ Y (by decide) (by decide) Y Y Y Y Y Y λg16=>?_))))));refine OI d (AG [2,0,1] Y (li Y (GZ AU QZ Y (by decide) Y Y Y Y Y Y (by omega) (by omega) λv17=>?_)));refine p1 Y (De (Xb (Xt (Dh ([ov [v17] ((FE l s k)++ [d]:(List ByteArray))]) Y (Cr (p1 Y (ad (k+1) Y (Pe Y (A3 0 Y (show((FE l s k)++ [d]:(List ByteArray))=FE l s (k+1) from by exact PG a (by simp_all)) (λac w' hf hs=>⟨_,?_,k+1,true,v17,?_,?_,Y,hf.wk Y,hs⟩))))))))))
      ·omega
      ·omega
      ·exact S9 a hd (by simp_all)
    ·refine Sk (Cr (P3 Y Y Y (q1 Y (AJ (l:=l) (j:=k) AU Y Y Y (λw' hs=>(rA hs b)) Y (lS a)) (q1 Y (HI BK Y Y at8 Y) (li Y (FF AU QZ Y (by decide) (by decide) Y Y Y Y Y Y λg18=>?_))))));refine OI d (AG [2,0,1] Y (li Y (GZ AU QZ Y (by decide) Y Y Y Y Y Y (by omega) (by omega) λm=>?_)));refine p1 Y (De (Xb (Xt (AH [0,1,5,6,7] Y (Dh ([ov [m] ((FE l s k)++ [d]:(List ByteArray))]) Y (Cr (p1 Y (ad (k+1) Y (Pe Y (A3 0 Y (show((FE l s k)++ [d]:(List ByteArray))=FE l s (k+1) from by exact PG a (by simp_all)) (λac w' hf hs=>⟨_,?_,k+1,dn,m,?_,?_,Y,hf.wk Y,hs⟩)))))))))))
     ·omega
     ·omega
     ·exact S9 a hd (by simp_all)
   ·refine n1 Y (n1 Y (n1 Y (n1 Y (n1 Y (n1 Y (Pe Y (G7 Y (Sk (Cr (P3 Y Y Y ?_))))))))));obtain⟨e,c⟩:=sI l k;obtain⟨o,p,q⟩:=AC (n:=1) rfl b c;obtain rfl:o=[.string e]:=q;refine q1 Y (AJ (l:=l) (j:=k) AU Y Y Y (λw' hs=>(rA hs b)) Y (lS c)) (q1 Y (HI BK Y Y p Y) (li Y (FF AU QZ Y (by decide) (by decide) Y Y Y Y Y Y λa2=>?_)));refine OI e (AG [2,0,1] Y (li Y (GZ AU QZ Y (by decide) Y Y Y Y Y Y (by omega) (by omega) λv26=>?_)));refine p1 Y (De (Xb (Xt (AH [0,1,5,6,7] Y (Dh ([ov [v26] ((FE l s k)++ [e]:(List ByteArray))]) Y (Cr (p1 Y (ad (k+1) Y (Pe Y (A3 0 Y (show((FE l s k)++ [e]:(List ByteArray))=FE l s (k+1) from by exact PG c (by simp_all)) (λac w' hf hs=>⟨_,?_,k+1,dn,v26,?_,?_,Y,hf.wk Y,hs⟩)))))))))))
    ·omega
    ·omega
    ·exact S9 c hd (by simp_all)
  ·refine Cx (Xx (Xx (Xe (Xt (Cq (Sr (P2 Y Y (Dx (CN Y (λr=>?_) (λr=>?_))))))))))
   ·refine Cr (P2 Y Y (li Y (FF AU QZ Y (by decide) (by decide) Y Y Y Y Y Y λa3=>?_)));refine OI s (AG [2,0,1] Y (li Y (GZ AU QZ Y (by decide) Y Y Y Y Y Y (by omega) (by omega) λv29=>?_)));refine Pe Y (Sr (P2 Y Y (Dx (Ct (FV Y Y λw' hs=>A7 (k:=0) hs Y ?_)))));show(FE l s k)++ [s]=CE l s;exact fV (by omega) (by simp_all)
   ·refine Sk (Sr (P2 Y Y (Dx (Ct (FV Y Y λw' hs=>A7 (k:=0) hs Y ?_)))));show FE l s k=CE l s;exact fU (by omega) (by simp_all)
end Go.Sy.Eng1
