/-
  Contracts of functions of the program, walked (printed by a program of ours).
  Conditions: those that each theorem states.
-/
import Derived.Test.YtfmjgnjaoihefaaGreatDoorFct
import Derived.Test.YtfmjgnjaoihefaaGreatDoorPut1
set_option linter.unusedVariables false
set_option maxRecDepth 20000
namespace Go.Sy.Put2
open Go Go.RowKit Go.Proofs Go.Sy
open Go.Sy.Bel1 Go.Sy.Bel3 Go.Sy.Ev1 Go.Sy.Ev2 Go.Sy.Ev3 Go.Sy.Fmt1 Go.Sy.Eng1 Go.Sy.Eng2 Go.Sy.Eng3 Go.Sy.Eng4 Go.Sy.Eng5 Go.Sy.Num1 Go.Sy.Num2 Go.Sy.Fal2 Go.Sy.Cho2 Go.Sy.Num3 Go.Sy.Put1
theorem B1H{w:World}{n:List Value}{e:Engine}{o:List Value}{f:Fact}(i:Gd.rd w n e)(b:Gd.rd w o f)(hn:DI e<=1048576)(ae:F9 f<=1048576)(p:Tb w):Cy 67 [(.agg n.toArray),(.agg o.toArray)] w (O8 w (A8D e f:Engine) (A8Z e f:Bool)):=by
 obtain⟨u1,u3,u5,u7,rfl,a3,j,a4,q⟩:=C6 i;have af:=rM a3;have a6:=rM j;have a7:=rM a4;have a8:=rM q;obtain⟨l,rfl,r⟩:=AS b;have a9:=rM r;have s:=hn;unfold DI DD at hn;refine enter 44 Tryz.func67 Y Y Y (Sr (bX Y λg16=>?_));refine bX Y λg17=>?_
 refine aL A1S Y λg18=>?_
 refine Pe Y (Dh ([bx g18 [(.slice none 0 0),(.slice none 0 0),(iv 0),(.slice none 0 0),(.bool false),(.slice none 0 0)],bx g17 [(.string f.Rel),l],bx g16 [u1,u3,(iv e.Clock),u5,(.bool e.Halted),u7]]) Y (Sr (q1 Y (C9 2 YR Y Y Y) (qs Y B2x Y (λw' hs=>(A9B (rA hs i) s)) λaa=>?_))));refine Dp (λw' hs=>H5 (rO (k:=0) hs Y)) ?_;rintro⟨v20,v21,v22,v23,rfl,c,d,g,h⟩;refine aL A1S Y λa=>?_
 refine li Y (AZ (vs:=[v20,v21,(iv e.Clock),v22,(.bool e.Halted),v23]) (cs':=[v20,v21,(iv e.Clock),v22,(.bool e.Halted),v23]) 0 A3b Y Y Y Y Y Y (AB c (AB d (AB Y (AB g (AB Y (AB h BR)))))) (by simp) Y ?_);refine Dx (Dh ([bx a [v20,v21,(iv e.Clock),v22,(.bool e.Halted),v23],ov [v20,v21,(iv e.Clock),v22,(.bool e.Halted),v23] (e:Engine),_,_,_]) Y (Cq (Cq (A1K (λac w'=>∃(jb:Bool),(jb=true->A8Z e f=false)/\(jb=false->A8Z e f=true)/\Fits ac 44 [(3,(pv g17)),(4,(pv g18)),(6,(pv a)),(39,(.bool jb))]/\St w ([bx a [v20,v21,(iv e.Clock),v22,(.bool e.Halted),v23],ov [v20,v21,(iv e.Clock),v22,(.bool e.Halted),v23] (e:Engine),bx g18 [(.slice none 0 0),(.slice none 0 0),(iv 0),(.slice none 0 0),(.bool false),(.slice none 0 0)],bx g17 [(.string f.Rel),l],bx g16 [u1,u3,(iv e.Clock),u5,(.bool e.Halted),u7]]) w') ?_ ?_))))
 ·refine Cr (q1 Y (C9 4 YR Y Y Y) (qv A7C Y (λw' hs=>(WL (rA hs i) s (Tb.ext p hs.bel))) (P2 Y Y (JQ 12 Y Y (λt=>?_) (λt=>?_)))))
  ·refine n1 Y (n1 Y (n1 Y (P2 Y Y (n1 Y (n1 Y (n1 Y (n1 Y (P2 Y Y (n1 Y (n1 Y (n1 Y (n1 Y (P2 Y Y (n1 Y (n1 Y (n1 Y (P2 Y Y (n1 Y (n1 Y (n1 Y (n1 Y (p1 Y (De ?_)))))))))))))))))))))));refine Xt (λac w' hf hs=>⟨true,(λhj=>?_),(λhj=>by cases hj),hf.wk Y,hs⟩)
   ·exact A9L ‹_›
  ·refine q1 Y (C9 3 C3 Y Y Y) (qv OP Y (λw' hs=>(EQ (rA hs b))) (P3 Y Y Y (JQ 17 Y Y (λu=>?_) (λu=>?_))))
   ·refine n1 Y (n1 Y (n1 Y (n1 Y (P2 Y Y (n1 Y (n1 Y (n1 Y (n1 Y (P2 Y Y (n1 Y (n1 Y (n1 Y (P2 Y Y (n1 Y (n1 Y (n1 Y (n1 Y (Pe Y (λac w' hf hs=>⟨true,(λhj=>?_),(λhj=>by cases hj),hf.wk Y,hs⟩)))))))))))))))))))
    ·exact A9M ‹_›
   ·refine fl 4 J3 VN Y (q1 Y (C9 3 C3 Y Y Y) (qv A6w Y (λw' hs=>(WE (rA hs j) (rA hs b))) (P2 Y Y (gs 23 Y Y (λa5=>?_) (λa5=>?_)))))
    ·refine n1 Y (n1 Y (n1 Y (n1 Y (P2 Y Y (n1 Y (n1 Y (n1 Y (P2 Y Y (n1 Y (n1 Y (n1 Y (n1 Y (Pe Y (λac w' hf hs=>⟨true,(λhj=>?_),(λhj=>by cases hj),hf.wk Y,hs⟩))))))))))))))
     ·exact A9E ‹_›
    ·refine fl 4 J3 VN Y (dl HJ Y (AE j) (P3 Y Y Y (EY 29 Y Y (λv=>?_) (λv=>?_))))
     ·refine n1 Y (n1 Y (n1 Y (P2 Y Y (n1 Y (n1 Y (n1 Y (n1 Y (Pe Y (λac w' hf hs=>⟨true,(λhj=>?_),(λhj=>by cases hj),hf.wk Y,hs⟩)))))))))
      ·exact A9N (by omega)
     ·refine fl 4 K9 CJ Y (P3 Y Y Y (EY 34 Y Y (λx=>?_) (λx=>?_)))
      ·refine n1 Y (n1 Y (n1 Y (n1 Y (Pe Y (λac w' hf hs=>⟨true,(λhj=>?_),(λhj=>by cases hj),hf.wk Y,hs⟩)))))
       ·exact A9N (by omega)
      ·refine fl 4 L5 aY Y (dl MU Y (AE q) (P2 Y Y (Dx (λac w' hf hs=>⟨(decide ((500:Int)<=((e.Log.length:Nat):Int))),(λhj=>?_),(λhj=>?_),hf.wk Y,hs⟩))))
       ·have prj:=odT hj;exact A9N (by omega)
       ·have prj:=odF hj;exact A9q ‹_› ‹_› ‹_› (by omega) (by omega) (by omega)
 rintro ac w' ⟨ab,hT35,hF36,hf,hs⟩;refine D.use ?_ hf hs;clear hf hs ac w';refine Xt (Ci _ Y (λm=>?_) (λm=>?_))
 ·have y:=hT35 m;refine Sr (q1 Y (C9 0 YR Y Y Y) (li Y (AZ (vs:=[v20,v21,(iv e.Clock),v22,(.bool e.Halted),v23]) (cs':=[v20,v21,(iv e.Clock),v22,(.bool e.Halted),v23]) 2 A3b Y Y Y Y Y Y (AB c (AB d (AB Y (AB g (AB Y (AB h BR)))))) (by simp) Y ?_)));refine Pe Y (Ct (Xr (AX false (AG [2,0,1,3,4,5] Y (DL Y (zH (cs:=[v20,v21,(iv e.Clock),v22,(.bool e.Halted),v23]) 3 YR Y Y) (D8 Y) λw' hs=>AY (c1:=[v20,v21,(iv e.Clock),v22,(.bool e.Halted),v23]) (c2:=[(.bool false)]) hs ?_ ?_)))))
  ·show(e:Engine)=A8D e f;exact(A8v ‹_›).1
  ·show(false:Bool)=A8Z e f;exact(A8v ‹_›).2
 ·have y:=hF36 m;refine Sk (Sr (q1 Y (C9 3 C3 Y Y Y) (A8O (li Y (cm B3a Y Y Y Y (λw' hs=>B1V _ _ w' a e [(.string f.Rel),l] f 1 ⟨#[]⟩ (λw' hs=>(rA hs b)) ‹_› (by omega) (by omega) (by have:=A8H (B2F ‹A8Z e f=true›);omega) p hs) ?_)))));refine A8b λad=>?_
  refine Dp (λw' hs=>H5 (rO (k:=1) hs Y)) ?_;rintro⟨v39,v40,v41,v42,rfl,z,a0,a1,a2⟩;refine Dx (Dh ([bx a [v39,v40,(iv ((A8J e f 1 (⟨#[]⟩)).Clock)),v41,(.bool ((A8J e f 1 (⟨#[]⟩)).Halted)),v42],ov [v39,v40,(iv ((A8J e f 1 (⟨#[]⟩)).Clock)),v41,(.bool ((A8J e f 1 (⟨#[]⟩)).Halted)),v42] (A8J e f 1 (⟨#[]⟩):Engine),_,_,_]) Y (Sr (q1 Y (C9 0 YR Y Y Y) (li Y (AZ (vs:=[v39,v40,(iv ((A8J e f 1 (⟨#[]⟩)).Clock)),v41,(.bool ((A8J e f 1 (⟨#[]⟩)).Halted)),v42]) (cs':=[v39,v40,(iv ((A8J e f 1 (⟨#[]⟩)).Clock)),v41,(.bool ((A8J e f 1 (⟨#[]⟩)).Halted)),v42]) 2 A3b Y Y Y Y Y Y (AB z (AB a0 (AB Y (AB a1 (AB Y (AB a2 BR)))))) (by simp) Y ?_)))));refine Pe Y (Ct (AX true (AG [2,0,1,3,4,5] Y (DL Y (zH (cs:=[v39,v40,(iv ((A8J e f 1 (⟨#[]⟩)).Clock)),v41,(.bool ((A8J e f 1 (⟨#[]⟩)).Halted)),v42]) 3 YR Y Y) (D8 Y) λw' hs=>AY (c1:=[v39,v40,(iv ((A8J e f 1 (⟨#[]⟩)).Clock)),v41,(.bool ((A8J e f 1 (⟨#[]⟩)).Halted)),v42]) (c2:=[(.bool true)]) hs ?_ ?_))))
  ·show(A8J e f 1 (⟨#[]⟩):Engine)=A8D e f;exact(A8r ‹_›).1
  ·show(true:Bool)=A8Z e f;exact(A8r ‹_›).2
theorem B1I{w:World}{n:List Value}{e:Engine}{o:List Value}{f:Fact}(i:Gd.rd w n e)(b:Gd.rd w o f)(hn:DI e<=1048576)(ae:F9 f<=1048576)(ho:QC e)(a3:P9 f):Cy 126 [(.agg n.toArray),(.agg o.toArray)] w (O8 w (A8D e f:Engine) (A8Z e f:Bool)):=by
 obtain⟨u1,u3,u5,u7,rfl,a4,j,a5,p⟩:=C6 i;have af:=rM a4;have a6:=rM j;have a7:=rM a5;have a8:=rM p;obtain⟨l,rfl,q⟩:=AS b;have a9:=rM q;have r:=hn;unfold DI DD at hn;refine enter 45 Tryz.func126 Y Y Y (Sr (bX Y λg16=>?_));refine bX Y λg17=>?_
 refine aL A1S Y λg18=>?_
 refine Pe Y (Dh ([bx g18 [(.slice none 0 0),(.slice none 0 0),(iv 0),(.slice none 0 0),(.bool false),(.slice none 0 0)],bx g17 [(.string f.Rel),l],bx g16 [u1,u3,(iv e.Clock),u5,(.bool e.Halted),u7]]) Y (Sr (q1 Y (C9 2 YR Y Y Y) (qs Y B2y Y (λw' hs=>(A9a (rA hs i) r)) λaa=>?_))));refine Dp (λw' hs=>H5 (rO (k:=0) hs Y)) ?_;rintro⟨v20,v21,v22,v23,rfl,c,d,g,h⟩;refine aL A1S Y λa=>?_
 refine li Y (AZ (vs:=[v20,v21,(iv e.Clock),v22,(.bool e.Halted),v23]) (cs':=[v20,v21,(iv e.Clock),v22,(.bool e.Halted),v23]) 0 A3b Y Y Y Y Y Y (AB c (AB d (AB Y (AB g (AB Y (AB h BR)))))) (by simp) Y ?_);refine Dx (Dh ([bx a [v20,v21,(iv e.Clock),v22,(.bool e.Halted),v23],ov [v20,v21,(iv e.Clock),v22,(.bool e.Halted),v23] (e:Engine),_,_,_]) Y (Cq (Cq (A1K (λac w'=>∃(jb:Bool),(jb=true->A8Z e f=false)/\(jb=false->A8Z e f=true)/\Fits ac 45 [(3,(pv g17)),(4,(pv g18)),(6,(pv a)),(40,(.bool jb))]/\St w ([bx a [v20,v21,(iv e.Clock),v22,(.bool e.Halted),v23],ov [v20,v21,(iv e.Clock),v22,(.bool e.Halted),v23] (e:Engine),bx g18 [(.slice none 0 0),(.slice none 0 0),(iv 0),(.slice none 0 0),(.bool false),(.slice none 0 0)],bx g17 [(.string f.Rel),l],bx g16 [u1,u3,(iv e.Clock),u5,(.bool e.Halted),u7]]) w') ?_ ?_))))
 ·refine Cr (q1 Y (C9 4 YR Y Y Y) (qv A7E Y (λw' hs=>(WM (rA hs i) r ho)) (P2 Y Y (JQ 12 Y Y (λs=>?_) (λs=>?_)))))
  ·refine n1 Y (n1 Y (n1 Y (P2 Y Y (n1 Y (n1 Y (n1 Y (n1 Y (n1 Y (P2 Y Y (n1 Y (n1 Y (n1 Y (n1 Y (P2 Y Y (n1 Y (n1 Y (n1 Y (P2 Y Y (n1 Y (n1 Y (n1 Y (n1 Y (p1 Y ?_)))))))))))))))))))))));refine Dx (λac w' hf hs=>⟨true,(λhj=>?_),(λhj=>by cases hj),hf.wk Y,hs⟩)
   ·exact A9L ‹_›
  ·refine q1 Y (C9 3 C3 Y Y Y) (qv OQ Y (λw' hs=>(ER (rA hs b) a3)) (P3 Y Y Y (JQ 17 Y Y (λt=>?_) (λt=>?_))))
   ·refine n1 Y (n1 Y (n1 Y (n1 Y (n1 Y (P2 Y Y (n1 Y (n1 Y (n1 Y (n1 Y (P2 Y Y (n1 Y (n1 Y (n1 Y (P2 Y Y (n1 Y (n1 Y (n1 Y (n1 Y (Pe Y (λac w' hf hs=>⟨true,(λhj=>?_),(λhj=>by cases hj),hf.wk Y,hs⟩))))))))))))))))))))
    ·exact A9M ‹_›
   ·refine fl 4 J3 VN Y (q1 Y (C9 3 C3 Y Y Y) (qv A6v Y (λw' hs=>(dU (rA hs j) (rA hs b))) (P3 Y Y Y (EY 24 Y Y (λu=>?_) (λu=>?_)))))
    ·refine n1 Y (n1 Y (n1 Y (n1 Y (P2 Y Y (n1 Y (n1 Y (n1 Y (P2 Y Y (n1 Y (n1 Y (n1 Y (n1 Y (Pe Y (λac w' hf hs=>⟨true,(λhj=>?_),(λhj=>by cases hj),hf.wk Y,hs⟩))))))))))))))
     ·exact A8l ‹_› (by omega)
    ·refine fl 4 J3 VN Y (dl HJ Y (AE j) (P3 Y Y Y (oV 30 Y Y (λv=>?_) (λv=>?_))))
     ·refine n1 Y (n1 Y (n1 Y (P2 Y Y (n1 Y (n1 Y (n1 Y (n1 Y (Pe Y (λac w' hf hs=>⟨true,(λhj=>?_),(λhj=>by cases hj),hf.wk Y,hs⟩)))))))))
      ·exact A9N (by omega)
     ·refine fl 4 K9 CJ Y (P3 Y Y Y (oV 35 Y Y (λx=>?_) (λx=>?_)))
      ·refine n1 Y (n1 Y (n1 Y (n1 Y (Pe Y (λac w' hf hs=>⟨true,(λhj=>?_),(λhj=>by cases hj),hf.wk Y,hs⟩)))))
       ·exact A9N (by omega)
      ·refine fl 4 L5 aY Y (dl MU Y (AE p) (P2 Y Y (Dx (λac w' hf hs=>⟨((((e.Log.length:Nat):Int):Int)==500),(λhj=>?_),(λhj=>?_),hf.wk Y,hs⟩))))
       ·have prj:=eq_of_beq hj;exact A9N (by omega)
       ·have prj:=JH hj;exact A9u ‹_› ‹_› (by omega) (by omega) (by omega) (by omega)
 rintro ac w' ⟨ab,hT35,hF36,hf,hs⟩;refine D.use ?_ hf hs;clear hf hs ac w';refine Xt (Ci _ Y (λm=>?_) (λm=>?_))
 ·have y:=hT35 m;refine Sr (q1 Y (C9 0 YR Y Y Y) (li Y (AZ (vs:=[v20,v21,(iv e.Clock),v22,(.bool e.Halted),v23]) (cs':=[v20,v21,(iv e.Clock),v22,(.bool e.Halted),v23]) 2 A3b Y Y Y Y Y Y (AB c (AB d (AB Y (AB g (AB Y (AB h BR)))))) (by simp) Y ?_)));refine Pe Y (Ct (Xr (AX false (AG [2,0,1,3,4,5] Y (DL Y (zH (cs:=[v20,v21,(iv e.Clock),v22,(.bool e.Halted),v23]) 3 YR Y Y) (D8 Y) λw' hs=>AY (c1:=[v20,v21,(iv e.Clock),v22,(.bool e.Halted),v23]) (c2:=[(.bool false)]) hs ?_ ?_)))))
  ·show(e:Engine)=A8D e f;exact(A8v ‹_›).1
  ·show(false:Bool)=A8Z e f;exact(A8v ‹_›).2
 ·have y:=hF36 m;refine Sk (Sr (q1 Y (C9 3 C3 Y Y Y) (A8O (li Y (cm B3Y Y Y Y Y (λw' hs=>B0O _ _ w' a e [(.string f.Rel),l] f 1 ⟨#[]⟩ (λw' hs=>(rA hs b)) ‹_› (by omega) (by omega) (by have:=A8H (B2F ‹A8Z e f=true›);omega) hs) ?_)))));refine A8b λad=>?_
  refine Dp (λw' hs=>H5 (rO (k:=1) hs Y)) ?_;rintro⟨v39,v40,v41,v42,rfl,z,a0,a1,a2⟩;refine Dx (Dh ([bx a [v39,v40,(iv ((A8J e f 1 (⟨#[]⟩)).Clock)),v41,(.bool ((A8J e f 1 (⟨#[]⟩)).Halted)),v42],ov [v39,v40,(iv ((A8J e f 1 (⟨#[]⟩)).Clock)),v41,(.bool ((A8J e f 1 (⟨#[]⟩)).Halted)),v42] (A8J e f 1 (⟨#[]⟩):Engine),_,_,_]) Y (Sr (q1 Y (C9 0 YR Y Y Y) (li Y (AZ (vs:=[v39,v40,(iv ((A8J e f 1 (⟨#[]⟩)).Clock)),v41,(.bool ((A8J e f 1 (⟨#[]⟩)).Halted)),v42]) (cs':=[v39,v40,(iv ((A8J e f 1 (⟨#[]⟩)).Clock)),v41,(.bool ((A8J e f 1 (⟨#[]⟩)).Halted)),v42]) 2 A3b Y Y Y Y Y Y (AB z (AB a0 (AB Y (AB a1 (AB Y (AB a2 BR)))))) (by simp) Y ?_)))));refine Pe Y (Ct (AX true (AG [2,0,1,3,4,5] Y (DL Y (zH (cs:=[v39,v40,(iv ((A8J e f 1 (⟨#[]⟩)).Clock)),v41,(.bool ((A8J e f 1 (⟨#[]⟩)).Halted)),v42]) 3 YR Y Y) (D8 Y) λw' hs=>AY (c1:=[v39,v40,(iv ((A8J e f 1 (⟨#[]⟩)).Clock)),v41,(.bool ((A8J e f 1 (⟨#[]⟩)).Halted)),v42]) (c2:=[(.bool true)]) hs ?_ ?_))))
  ·show(A8J e f 1 (⟨#[]⟩):Engine)=A8D e f;exact(A8r ‹_›).1
  ·show(true:Bool)=A8Z e f;exact(A8r ‹_›).2
theorem B0o{w:World}{m:List Value}{e:Engine}{n:List Value}{f:Fact}(h:Gd.rd w m e)(i:Gd.rd w n f)(hn:DI e<=1048576)(aa:F9 f<=1048576)(a0:Tb w):Cy 68 [(.agg m.toArray),(.agg n.toArray)] w (O8 w (A8E e f:Engine) (A8g e f:Bool)):=by
 obtain⟨u1,u3,u5,u7,rfl,a1,o,a2,p⟩:=C6 h;have ab:=rM a1;have a3:=rM o;have a4:=rM a2;have a5:=rM p;obtain⟨j,rfl,q⟩:=AS i;have a6:=rM q;have r:=hn;unfold DI DD at hn;refine enter 29 Tryz.func68 Y Y Y (Sr (bX Y λg16=>?_));refine bX Y λg17=>?_
 refine aL A1S Y λg18=>?_
 refine Pe Y (Dh ([bx g18 [(.slice none 0 0),(.slice none 0 0),(iv 0),(.slice none 0 0),(.bool false),(.slice none 0 0)],bx g17 [(.string f.Rel),j],bx g16 [u1,u3,(iv e.Clock),u5,(.bool e.Halted),u7]]) Y (Sr (q1 Y (C9 2 YR Y Y Y) (qs Y B2x Y (λw' hs=>(A9B (rA hs h) r)) λa7=>?_))));refine Dp (λw' hs=>H5 (rO (k:=0) hs Y)) ?_;rintro⟨v20,v21,v22,v23,rfl,b,c,d,g⟩;refine aL A1S Y λa=>?_
 refine li Y (AZ (vs:=[v20,v21,(iv e.Clock),v22,(.bool e.Halted),v23]) (cs':=[v20,v21,(iv e.Clock),v22,(.bool e.Halted),v23]) 0 A3b Y Y Y Y Y Y (AB b (AB c (AB Y (AB d (AB Y (AB g BR)))))) (by simp) Y ?_);refine Dx (Dh ([bx a [v20,v21,(iv e.Clock),v22,(.bool e.Halted),v23],ov [v20,v21,(iv e.Clock),v22,(.bool e.Halted),v23] (e:Engine),_,_,_]) Y (Cq (Cq (A1K (λac w'=>∃(jb:Bool),(jb=true->A8g e f=false)/\(jb=false->A8g e f=true)/\Fits ac 29 [(3,(pv g17)),(4,(pv g18)),(6,(pv a)),(24,(.bool jb))]/\St w ([bx a [v20,v21,(iv e.Clock),v22,(.bool e.Halted),v23],ov [v20,v21,(iv e.Clock),v22,(.bool e.Halted),v23] (e:Engine),bx g18 [(.slice none 0 0),(.slice none 0 0),(iv 0),(.slice none 0 0),(.bool false),(.slice none 0 0)],bx g17 [(.string f.Rel),j],bx g16 [u1,u3,(iv e.Clock),u5,(.bool e.Halted),u7]]) w') ?_ ?_))))
 ·refine Cr (q1 Y (C9 4 YR Y Y Y) (qv A7C Y (λw' hs=>(WL (rA hs h) r (Tb.ext a0 hs.bel))) (P2 Y Y (JQ 12 Y Y (λs=>?_) (λs=>?_)))))
  ·refine n1 Y (n1 Y (n1 Y (n1 Y (n1 Y (P2 Y Y (n1 Y (n1 Y (n1 Y (n1 Y (Pe Y (λac w' hf hs=>⟨true,(λhj=>?_),(λhj=>by cases hj),hf.wk Y,hs⟩)))))))))))
   ·exact A9v ‹_›
  ·refine fl 4 J3 VN Y (q1 Y (C9 3 C3 Y Y Y) (qv A6w Y (λw' hs=>(WE (rA hs o) (rA hs i))) (P3 Y Y Y (JQ 19 Y Y (λt=>?_) (λt=>?_)))))
   ·refine n1 Y (n1 Y (n1 Y (n1 Y (Pe Y (λac w' hf hs=>⟨true,(λhj=>?_),(λhj=>by cases hj),hf.wk Y,hs⟩)))))
    ·exact A9w ‹_›
   ·refine fl 4 L5 aY Y (dl MU Y (AE p) (P2 Y Y (Dx (λac w' hf hs=>⟨(decide ((500:Int)<=((e.Log.length:Nat):Int))),(λhj=>?_),(λhj=>?_),hf.wk Y,hs⟩))))
    ·have prj:=odT hj;exact B0K (by omega)
    ·have prj:=odF hj;exact B0y ‹_› ‹_› (by omega)
 rintro ac w' ⟨a8,hT32,hF33,hf,hs⟩;refine D.use ?_ hf hs;clear hf hs ac w';refine Xt (Ci _ Y (λl=>?_) (λl=>?_))
 ·have u:=hT32 l;refine Sr (q1 Y (C9 0 YR Y Y Y) (li Y (AZ (vs:=[v20,v21,(iv e.Clock),v22,(.bool e.Halted),v23]) (cs':=[v20,v21,(iv e.Clock),v22,(.bool e.Halted),v23]) 2 A3b Y Y Y Y Y Y (AB b (AB c (AB Y (AB d (AB Y (AB g BR)))))) (by simp) Y ?_)));refine Pe Y (Ct (Xr (AX false (AG [2,0,1,3,4,5] Y (DL Y (zH (cs:=[v20,v21,(iv e.Clock),v22,(.bool e.Halted),v23]) 3 YR Y Y) (D8 Y) λw' hs=>AY (c1:=[v20,v21,(iv e.Clock),v22,(.bool e.Halted),v23]) (c2:=[(.bool false)]) hs ?_ ?_)))))
  ·show(e:Engine)=A8E e f;exact(A8w ‹_›).1
  ·show(false:Bool)=A8g e f;exact(A8w ‹_›).2
 ·have u:=hF33 l;refine Sk (Sr (q1 Y (C9 3 C3 Y Y Y) (A8O (li Y (cm B3b Y Y Y Y (λw' hs=>B0u _ _ w' a e [(.string f.Rel),j] f 2 ⟨#[]⟩ (λw' hs=>(rA hs i)) ‹_› (by omega) (by omega) hs) ?_)))));refine A8b λa9=>?_
  refine Dp (λw' hs=>H5 (rO (k:=1) hs Y)) ?_;rintro⟨v36,v37,v38,v39,rfl,v,x,y,z⟩;refine Dx (Dh ([bx a [v36,v37,(iv ((A8G e f 2 (⟨#[]⟩)).Clock)),v38,(.bool ((A8G e f 2 (⟨#[]⟩)).Halted)),v39],ov [v36,v37,(iv ((A8G e f 2 (⟨#[]⟩)).Clock)),v38,(.bool ((A8G e f 2 (⟨#[]⟩)).Halted)),v39] (A8G e f 2 (⟨#[]⟩):Engine),_,_,_]) Y (Sr (q1 Y (C9 0 YR Y Y Y) (li Y (AZ (vs:=[v36,v37,(iv ((A8G e f 2 (⟨#[]⟩)).Clock)),v38,(.bool ((A8G e f 2 (⟨#[]⟩)).Halted)),v39]) (cs':=[v36,v37,(iv ((A8G e f 2 (⟨#[]⟩)).Clock)),v38,(.bool ((A8G e f 2 (⟨#[]⟩)).Halted)),v39]) 2 A3b Y Y Y Y Y Y (AB v (AB x (AB Y (AB y (AB Y (AB z BR)))))) (by simp) Y ?_)))));refine Pe Y (Ct (AX true (AG [2,0,1,3,4,5] Y (DL Y (zH (cs:=[v36,v37,(iv ((A8G e f 2 (⟨#[]⟩)).Clock)),v38,(.bool ((A8G e f 2 (⟨#[]⟩)).Halted)),v39]) 3 YR Y Y) (D8 Y) λw' hs=>AY (c1:=[v36,v37,(iv ((A8G e f 2 (⟨#[]⟩)).Clock)),v38,(.bool ((A8G e f 2 (⟨#[]⟩)).Halted)),v39]) (c2:=[(.bool true)]) hs ?_ ?_))))
  ·show(A8G e f 2 (⟨#[]⟩):Engine)=A8E e f;exact(A8s ‹_›).1
  ·show(true:Bool)=A8g e f;exact(A8s ‹_›).2
theorem B0p{w:World}{m:List Value}{e:Engine}{n:List Value}{f:Fact}(h:Gd.rd w m e)(i:Gd.rd w n f)(hn:DI e<=1048576)(a9:F9 f<=1048576)(ho:QC e)(aa:P9 f):Cy 127 [(.agg m.toArray),(.agg n.toArray)] w (O8 w (A8E e f:Engine) (A8g e f:Bool)):=by
 obtain⟨u1,u3,u5,u7,rfl,a0,o,a1,p⟩:=C6 h;have ab:=rM a0;have a2:=rM o;have a3:=rM a1;have a4:=rM p;obtain⟨j,rfl,q⟩:=AS i;have a5:=rM q;have r:=hn;unfold DI DD at hn;refine enter 29 Tryz.func127 Y Y Y (Sr (bX Y λg16=>?_));refine bX Y λg17=>?_
 refine aL A1S Y λg18=>?_
 refine Pe Y (Dh ([bx g18 [(.slice none 0 0),(.slice none 0 0),(iv 0),(.slice none 0 0),(.bool false),(.slice none 0 0)],bx g17 [(.string f.Rel),j],bx g16 [u1,u3,(iv e.Clock),u5,(.bool e.Halted),u7]]) Y (Sr (q1 Y (C9 2 YR Y Y Y) (qs Y B2y Y (λw' hs=>(A9a (rA hs h) r)) λa6=>?_))));refine Dp (λw' hs=>H5 (rO (k:=0) hs Y)) ?_;rintro⟨v20,v21,v22,v23,rfl,b,c,d,g⟩;refine aL A1S Y λa=>?_
 refine li Y (AZ (vs:=[v20,v21,(iv e.Clock),v22,(.bool e.Halted),v23]) (cs':=[v20,v21,(iv e.Clock),v22,(.bool e.Halted),v23]) 0 A3b Y Y Y Y Y Y (AB b (AB c (AB Y (AB d (AB Y (AB g BR)))))) (by simp) Y ?_);refine Dx (Dh ([bx a [v20,v21,(iv e.Clock),v22,(.bool e.Halted),v23],ov [v20,v21,(iv e.Clock),v22,(.bool e.Halted),v23] (e:Engine),_,_,_]) Y (Cq (Cq (A1K (λac w'=>∃(jb:Bool),(jb=true->A8g e f=false)/\(jb=false->A8g e f=true)/\Fits ac 29 [(3,(pv g17)),(4,(pv g18)),(6,(pv a)),(24,(.bool jb))]/\St w ([bx a [v20,v21,(iv e.Clock),v22,(.bool e.Halted),v23],ov [v20,v21,(iv e.Clock),v22,(.bool e.Halted),v23] (e:Engine),bx g18 [(.slice none 0 0),(.slice none 0 0),(iv 0),(.slice none 0 0),(.bool false),(.slice none 0 0)],bx g17 [(.string f.Rel),j],bx g16 [u1,u3,(iv e.Clock),u5,(.bool e.Halted),u7]]) w') ?_ ?_))))
 ·refine Cr (q1 Y (C9 4 YR Y Y Y) (qv A7E Y (λw' hs=>(WM (rA hs h) r ho)) (P2 Y Y (JQ 12 Y Y (λs=>?_) (λs=>?_)))))
  ·refine n1 Y (n1 Y (n1 Y (n1 Y (n1 Y (P2 Y Y (n1 Y (n1 Y (n1 Y (n1 Y (Pe Y (λac w' hf hs=>⟨true,(λhj=>?_),(λhj=>by cases hj),hf.wk Y,hs⟩)))))))))))
   ·exact A9v ‹_›
  ·refine fl 4 J3 VN Y (q1 Y (C9 3 C3 Y Y Y) (qv A6v Y (λw' hs=>(dU (rA hs o) (rA hs i))) (P3 Y Y Y (oV 19 Y Y (λt=>?_) (λt=>?_)))))
   ·refine n1 Y (n1 Y (n1 Y (n1 Y (Pe Y (λac w' hf hs=>⟨true,(λhj=>?_),(λhj=>by cases hj),hf.wk Y,hs⟩)))))
    ·exact A9e (by omega)
   ·refine fl 4 L5 aY Y (dl MU Y (AE p) (P2 Y Y (Dx (λac w' hf hs=>⟨((((e.Log.length:Nat):Int):Int)==500),(λhj=>?_),(λhj=>?_),hf.wk Y,hs⟩))))
    ·have prj:=eq_of_beq hj;exact B0K (by omega)
    ·have prj:=JH hj;exact B1P ‹_› (by omega) (by omega)
 rintro ac w' ⟨a7,hT32,hF33,hf,hs⟩;refine D.use ?_ hf hs;clear hf hs ac w';refine Xt (Ci _ Y (λl=>?_) (λl=>?_))
 ·have u:=hT32 l;refine Sr (q1 Y (C9 0 YR Y Y Y) (li Y (AZ (vs:=[v20,v21,(iv e.Clock),v22,(.bool e.Halted),v23]) (cs':=[v20,v21,(iv e.Clock),v22,(.bool e.Halted),v23]) 2 A3b Y Y Y Y Y Y (AB b (AB c (AB Y (AB d (AB Y (AB g BR)))))) (by simp) Y ?_)));refine Pe Y (Ct (Xr (AX false (AG [2,0,1,3,4,5] Y (DL Y (zH (cs:=[v20,v21,(iv e.Clock),v22,(.bool e.Halted),v23]) 3 YR Y Y) (D8 Y) λw' hs=>AY (c1:=[v20,v21,(iv e.Clock),v22,(.bool e.Halted),v23]) (c2:=[(.bool false)]) hs ?_ ?_)))))
  ·show(e:Engine)=A8E e f;exact(A8w ‹_›).1
  ·show(false:Bool)=A8g e f;exact(A8w ‹_›).2
 ·have u:=hF33 l;refine Sk (Sr (q1 Y (C9 3 C3 Y Y Y) (A8O (li Y (cm B3Z Y Y Y Y (λw' hs=>A9z _ _ w' a e [(.string f.Rel),j] f 2 ⟨#[]⟩ (λw' hs=>(rA hs i)) ‹_› (by omega) (by omega) hs) ?_)))));refine A8b λa8=>?_
  refine Dp (λw' hs=>H5 (rO (k:=1) hs Y)) ?_;rintro⟨v36,v37,v38,v39,rfl,v,x,y,z⟩;refine Dx (Dh ([bx a [v36,v37,(iv ((A8G e f 2 (⟨#[]⟩)).Clock)),v38,(.bool ((A8G e f 2 (⟨#[]⟩)).Halted)),v39],ov [v36,v37,(iv ((A8G e f 2 (⟨#[]⟩)).Clock)),v38,(.bool ((A8G e f 2 (⟨#[]⟩)).Halted)),v39] (A8G e f 2 (⟨#[]⟩):Engine),_,_,_]) Y (Sr (q1 Y (C9 0 YR Y Y Y) (li Y (AZ (vs:=[v36,v37,(iv ((A8G e f 2 (⟨#[]⟩)).Clock)),v38,(.bool ((A8G e f 2 (⟨#[]⟩)).Halted)),v39]) (cs':=[v36,v37,(iv ((A8G e f 2 (⟨#[]⟩)).Clock)),v38,(.bool ((A8G e f 2 (⟨#[]⟩)).Halted)),v39]) 2 A3b Y Y Y Y Y Y (AB v (AB x (AB Y (AB y (AB Y (AB z BR)))))) (by simp) Y ?_)))));refine Pe Y (Ct (AX true (AG [2,0,1,3,4,5] Y (DL Y (zH (cs:=[v36,v37,(iv ((A8G e f 2 (⟨#[]⟩)).Clock)),v38,(.bool ((A8G e f 2 (⟨#[]⟩)).Halted)),v39]) 3 YR Y Y) (D8 Y) λw' hs=>AY (c1:=[v36,v37,(iv ((A8G e f 2 (⟨#[]⟩)).Clock)),v38,(.bool ((A8G e f 2 (⟨#[]⟩)).Halted)),v39]) (c2:=[(.bool true)]) hs ?_ ?_))))
  ·show(A8G e f 2 (⟨#[]⟩):Engine)=A8E e f;exact(A8s ‹_›).1
  ·show(true:Bool)=A8g e f;exact(A8s ‹_›).2
end Go.Sy.Put2
