/-
  Contracts of functions of the program, walked (printed by a program of ours).
  Conditions: those that each theorem states.
-/
import Derived.Test.YtmjmglkogcomaaaGreatDoorPut1
import Derived.Test.YtmjmglkogcomaaaGreatDoorDrm
section
set_option linter.unusedVariables false
set_option maxRecDepth 20000
namespace Go.Sy.Put2
open Go Go.RowKit Go.Proofs Go.Sy
open Go.Sy.Bel1 Go.Sy.Ev1 Go.Sy.Ev3 Go.Sy.Fmt1 Go.Sy.Eng1 Go.Sy.Eng2 Go.Sy.Eng3 Go.Sy.Eng4 Go.Sy.Num1 Go.Sy.Num2 Go.Sy.Fal2 Go.Sy.Cho2 Go.Sy.Num3 Go.Sy.Put1
theorem B1H{w:World}{a1:List Value}{e:C1P}{a2:List Value}{f:C1G}(x:Gd.rd w a1 e)(o:Gd.rd w a2 f)(hn:DI e<=1048576)(aw:F9 f<=1048576)(a3:Tb w):Cy 9 [(.agg a1.toArray),(.agg a2.toArray)] w (O8 w (A8D e f:C1P) (A8Z e f:Bool)):=by
 obtain⟨u1,u3,u5,u7,rfl,aj,y,ak,a4⟩:=C6 x;have ax:=rM aj;have an:=rM y;have ao:=rM ak;have ap:=rM a4;obtain⟨z,rfl,a5⟩:=AS o;have aq:=rM a5;have a6:=hn;unfold DI DD at hn;refine enter 44 Tryz.func9 Y Y Y<|Sr (bX Y λg16=>?_);refine bX Y λg17=>?_
 refine aL C5i Y λg18=>?_
 refine Pe Y<|Dh [bx g18 zEs,bx g17 [.string f.p5,z],bx g16 [u1,u3,iv e.g,u5,.bool e.p,u7]] Y<|Sr<|q1 Y (C9 2 C4u Y Y Y) (qs Y A5C Y (λw' a=>A9B (rA a x) a6) λar=>?_);refine Dp (λw' a=>H5<|rO (k:=0) a Y) ?_;rintro⟨v20,v21,c,b,rfl,r,s,t,v⟩;refine aL C5i Y λn=>?_
 refine li Y<|AZ (vs:=[v20,v21,iv e.g,c,.bool e.p,b]) (cs':=[v20,v21,iv e.g,c,.bool e.p,b]) 0 A6c Y Y Y Y Y Y (AB r<|AB s<|AB Y<|AB t<|AB Y<|AB v BR) (by simp) Y ?_;refine Dx<|Dh [bx n [v20,v21,iv e.g,c,.bool e.p,b],ov [v20,v21,iv e.g,c,.bool e.p,b] (e:C1P),_,_,_] Y<|Cq<|Cq<|A1K (λq w'=>∃(jb:Bool),(jb=true->A8Z e f=false)/\(jb=false->A8Z e f=true)/\Fits q 44 [(3,pv g17),(4,pv g18),(6,pv n),(39,.bool jb)]/\St w ([bx n [v20,v21,iv e.g,c,.bool e.p,b],ov [v20,v21,iv e.g,c,.bool e.p,b] (e:C1P),bx g18 zEs,bx g17 [.string f.p5,z],bx g16 [u1,u3,iv e.g,u5,.bool e.p,u7]]) w') ?_ ?_
 ·refine Cr<|q1 Y (C9 4 C4u Y Y Y)<|qv B4C Y (λw' a=>WL (rA a x) a6<|Tb.ext a3 a.bel)<|P2 Y Y<|JQ 12 Y Y (λa7=>?_) λa7=>?_
  ·refine n1 Y<|n1 Y<|n1 Y<|P2 Y Y<|n1 Y<|n1 Y<|n1 Y<|n1 Y<|P2 Y Y<|n1 Y<|n1 Y<|n1 Y<|n1 Y<|P2 Y Y<|n1 Y<|n1 Y<|n1 Y<|P2 Y Y<|n1 Y<|n1 Y<|n1 Y<|n1 Y<|p1 Y<|De ?_;refine Xt λq w' h a=>⟨true,(λd=>?_),(λd=>by cases d),h.wk Y,a⟩
   ·exact A9L ‹_›
  ·refine q1 Y (C9 3 C4N Y Y Y)<|qv A6Y Y (λw' a=>EQ<|rA a o)<|P3 Y Y Y<|JQ 17 Y Y (λa8=>?_) λa8=>?_
   ·refine PE 22 Y λq w' h a=>⟨true,(λd=>?_),(λd=>by cases d),h.wk Y,a⟩
    ·exact A9M ‹_›
   ·refine fl 4 C4l A3a Y<|q1 Y (C9 3 C4N Y Y Y)<|qv A6Z Y (λw' a=>WE (rA a y)<|rA a o)<|P2 Y Y<|gs 23 Y Y (λal=>?_) λal=>?_
    ·refine PE 16 Y λq w' h a=>⟨true,(λd=>?_),(λd=>by cases d),h.wk Y,a⟩
     ·exact A9E ‹_›
    ·refine fl 4 C4l A3a Y<|dl lZ Y (AE y)<|P3 Y Y Y<|EY 29 Y Y (λa9=>?_) λa9=>?_
     ·refine PE 10 Y λq w' h a=>⟨true,(λd=>?_),(λd=>by cases d),h.wk Y,a⟩
      ·exact A9N (by omega)
     ·refine fl 4 C5W CJ Y<|P3 Y Y Y<|EY 34 Y Y (λaa=>?_) λaa=>?_
      ·refine PE 5 Y λq w' h a=>⟨true,(λd=>?_),(λd=>by cases d),h.wk Y,a⟩
       ·exact A9N (by omega)
      ·refine fl 4 C4O C5U Y<|dl C4v Y (AE a4)<|PE 2 Y λq w' h a=>⟨(decide ((500:Int)<=((e.u.length:Nat):Int))),(λd=>?_),(λd=>?_),h.wk Y,a⟩
       ·have am:=odT d;exact A9N (by omega)
       ·have am:=odF d;exact A9q ‹_› ‹_› ‹_› (by omega) (by omega) (by omega)
 rintro q w' ⟨au,ah,ai,h,a⟩;refine D.use ?_ h a;clear h a q w';refine Xt<|Ci _ Y (λa0=>?_) λa0=>?_
 ·have ab:=ah a0;refine Sr<|q1 Y (C9 0 C4u Y Y Y)<|li Y<|AZ (vs:=[v20,v21,iv e.g,c,.bool e.p,b]) (cs':=[v20,v21,iv e.g,c,.bool e.p,b]) 2 A6c Y Y Y Y Y Y (AB r<|AB s<|AB Y<|AB t<|AB Y<|AB v BR) (by simp) Y ?_;refine Pe Y<|Ct<|Xr<|AX false<|AG [2,0,1,3,4,5] Y (DL Y (zH (cs:=[v20,v21,iv e.g,c,.bool e.p,b]) 3 C4u Y Y) (D8 Y) λw' a=>AY (c1:=[v20,v21,iv e.g,c,.bool e.p,b]) (c2:=[.bool false]) a ?_ ?_)
  ·show(e:C1P)=A8D e f;exact(A8v ‹_›).1
  ·show(false:Bool)=A8Z e f;exact(A8v ‹_›).2
 ·have ab:=ai a0;refine Sk<|Sr<|q1 Y (C9 3 C4N Y Y Y)<|A8O<|li Y<|cm B2y Y Y Y Y (λw' a=>B1V _ _ w' n e [.string f.p5,z] f 1 ⟨#[]⟩ (λw' a=>rA a o) ‹_› (by omega) (by omega) (by have:=A8H (B2F ‹A8Z e f=true›);omega) a3 a) ?_;refine A8b λav=>?_
  refine Dp (λw' a=>H5<|rO (k:=1) a Y) ?_;rintro⟨j,l,m,i,rfl,ad,ae,af,ag⟩;refine Dx<|Dh [bx n [j,l,iv ((A8J e f 1 ⟨#[]⟩).g),m,.bool ((A8J e f 1 ⟨#[]⟩).p),i],ov [j,l,iv ((A8J e f 1 ⟨#[]⟩).g),m,.bool ((A8J e f 1 ⟨#[]⟩).p),i] (A8J e f 1 ⟨#[]⟩:C1P),_,_,_] Y<|Sr<|q1 Y (C9 0 C4u Y Y Y)<|li Y<|AZ (vs:=[j,l,iv ((A8J e f 1 ⟨#[]⟩).g),m,.bool ((A8J e f 1 ⟨#[]⟩).p),i]) (cs':=[j,l,iv ((A8J e f 1 ⟨#[]⟩).g),m,.bool ((A8J e f 1 ⟨#[]⟩).p),i]) 2 A6c Y Y Y Y Y Y (AB ad<|AB ae<|AB Y<|AB af<|AB Y<|AB ag BR) (by simp) Y ?_;refine Pe Y<|Ct<|AX true<|AG [2,0,1,3,4,5] Y (DL Y (zH (cs:=[j,l,iv ((A8J e f 1 ⟨#[]⟩).g),m,.bool ((A8J e f 1 ⟨#[]⟩).p),i]) 3 C4u Y Y) (D8 Y) λw' a=>AY (c1:=[j,l,iv ((A8J e f 1 ⟨#[]⟩).g),m,.bool ((A8J e f 1 ⟨#[]⟩).p),i]) (c2:=[.bool true]) a ?_ ?_)
  ·show(A8J e f 1 ⟨#[]⟩:C1P)=A8D e f;exact(A8r ‹_›).1
  ·show(true:Bool)=A8Z e f;exact(A8r ‹_›).2
theorem B1I{w:World}{a1:List Value}{e:C1P}{a2:List Value}{f:C1G}(x:Gd.rd w a1 e)(o:Gd.rd w a2 f)(hn:DI e<=1048576)(aw:F9 f<=1048576)(ho:QC e)(aj:P9 f):Cy 104 [(.agg a1.toArray),(.agg a2.toArray)] w (O8 w (A8D e f:C1P) (A8Z e f:Bool)):=by
 obtain⟨u1,u3,u5,u7,rfl,ak,y,al,a3⟩:=C6 x;have ax:=rM ak;have an:=rM y;have ao:=rM al;have ap:=rM a3;obtain⟨z,rfl,a4⟩:=AS o;have aq:=rM a4;have a5:=hn;unfold DI DD at hn;refine enter 45 Tryz.func104 Y Y Y<|Sr (bX Y λg16=>?_);refine bX Y λg17=>?_
 refine aL C5i Y λg18=>?_
 refine Pe Y<|Dh [bx g18 zEs,bx g17 [.string f.p5,z],bx g16 [u1,u3,iv e.g,u5,.bool e.p,u7]] Y<|Sr<|q1 Y (C9 2 C4u Y Y Y) (qs Y B3v Y (λw' a=>A9a (rA a x) a5) λar=>?_);refine Dp (λw' a=>H5<|rO (k:=0) a Y) ?_;rintro⟨v20,v21,c,b,rfl,r,s,t,v⟩;refine aL C5i Y λn=>?_
 refine li Y<|AZ (vs:=[v20,v21,iv e.g,c,.bool e.p,b]) (cs':=[v20,v21,iv e.g,c,.bool e.p,b]) 0 A6c Y Y Y Y Y Y (AB r<|AB s<|AB Y<|AB t<|AB Y<|AB v BR) (by simp) Y ?_;refine Dx<|Dh [bx n [v20,v21,iv e.g,c,.bool e.p,b],ov [v20,v21,iv e.g,c,.bool e.p,b] (e:C1P),_,_,_] Y<|Cq<|Cq<|A1K (λq w'=>∃(jb:Bool),(jb=true->A8Z e f=false)/\(jb=false->A8Z e f=true)/\Fits q 45 [(3,pv g17),(4,pv g18),(6,pv n),(40,.bool jb)]/\St w ([bx n [v20,v21,iv e.g,c,.bool e.p,b],ov [v20,v21,iv e.g,c,.bool e.p,b] (e:C1P),bx g18 zEs,bx g17 [.string f.p5,z],bx g16 [u1,u3,iv e.g,u5,.bool e.p,u7]]) w') ?_ ?_
 ·refine Cr<|q1 Y (C9 4 C4u Y Y Y)<|qv B1x Y (λw' a=>WM (rA a x) a5 ho)<|P2 Y Y<|JQ 12 Y Y (λa6=>?_) λa6=>?_
  ·refine n1 Y<|n1 Y<|n1 Y<|P2 Y Y<|n1 Y<|n1 Y<|n1 Y<|n1 Y<|n1 Y<|P2 Y Y<|n1 Y<|n1 Y<|n1 Y<|n1 Y<|P2 Y Y<|n1 Y<|n1 Y<|n1 Y<|P2 Y Y<|n1 Y<|n1 Y<|n1 Y<|n1 Y<|p1 Y ?_;refine Dx λq w' h a=>⟨true,(λd=>?_),(λd=>by cases d),h.wk Y,a⟩
   ·exact A9L ‹_›
  ·refine q1 Y (C9 3 C4N Y Y Y)<|qv B3s Y (λw' a=>ER (rA a o) aj)<|P3 Y Y Y<|JQ 17 Y Y (λa7=>?_) λa7=>?_
   ·refine PE 23 Y λq w' h a=>⟨true,(λd=>?_),(λd=>by cases d),h.wk Y,a⟩
    ·exact A9M ‹_›
   ·refine fl 4 C4l A3a Y<|q1 Y (C9 3 C4N Y Y Y)<|qv A3x Y (λw' a=>dU (rA a y)<|rA a o)<|P3 Y Y Y<|EY 24 Y Y (λa8=>?_) λa8=>?_
    ·refine PE 16 Y λq w' h a=>⟨true,(λd=>?_),(λd=>by cases d),h.wk Y,a⟩
     ·exact A8l ‹_› (by omega)
    ·refine fl 4 C4l A3a Y<|dl lZ Y (AE y)<|P3 Y Y Y<|oV 30 Y Y (λa9=>?_) λa9=>?_
     ·refine PE 10 Y λq w' h a=>⟨true,(λd=>?_),(λd=>by cases d),h.wk Y,a⟩
      ·exact A9N (by omega)
     ·refine fl 4 C5W CJ Y<|P3 Y Y Y<|oV 35 Y Y (λaa=>?_) λaa=>?_
      ·refine PE 5 Y λq w' h a=>⟨true,(λd=>?_),(λd=>by cases d),h.wk Y,a⟩
       ·exact A9N (by omega)
      ·refine fl 4 C4O C5U Y<|dl C4v Y (AE a3)<|PE 2 Y λq w' h a=>⟨((((e.u.length:Nat):Int):Int)==500),(λd=>?_),(λd=>?_),h.wk Y,a⟩
       ·have am:=eq_of_beq d;exact A9N (by omega)
       ·have am:=JH d;exact A9u ‹_› ‹_› (by omega) (by omega) (by omega) (by omega)
 rintro q w' ⟨au,ah,ai,h,a⟩;refine D.use ?_ h a;clear h a q w';refine Xt<|Ci _ Y (λa0=>?_) λa0=>?_
 ·have ab:=ah a0;refine Sr<|q1 Y (C9 0 C4u Y Y Y)<|li Y<|AZ (vs:=[v20,v21,iv e.g,c,.bool e.p,b]) (cs':=[v20,v21,iv e.g,c,.bool e.p,b]) 2 A6c Y Y Y Y Y Y (AB r<|AB s<|AB Y<|AB t<|AB Y<|AB v BR) (by simp) Y ?_;refine Pe Y<|Ct<|Xr<|AX false<|AG [2,0,1,3,4,5] Y (DL Y (zH (cs:=[v20,v21,iv e.g,c,.bool e.p,b]) 3 C4u Y Y) (D8 Y) λw' a=>AY (c1:=[v20,v21,iv e.g,c,.bool e.p,b]) (c2:=[.bool false]) a ?_ ?_)
  ·show(e:C1P)=A8D e f;exact(A8v ‹_›).1
  ·show(false:Bool)=A8Z e f;exact(A8v ‹_›).2
 ·have ab:=ai a0;refine Sk<|Sr<|q1 Y (C9 3 C4N Y Y Y)<|A8O<|li Y<|cm zW Y Y Y Y (λw' a=>B0O _ _ w' n e [.string f.p5,z] f 1 ⟨#[]⟩ (λw' a=>rA a o) ‹_› (by omega) (by omega) (by have:=A8H (B2F ‹A8Z e f=true›);omega) a) ?_;refine A8b λav=>?_
  refine Dp (λw' a=>H5<|rO (k:=1) a Y) ?_;rintro⟨j,l,m,i,rfl,ad,ae,af,ag⟩;refine Dx<|Dh [bx n [j,l,iv ((A8J e f 1 ⟨#[]⟩).g),m,.bool ((A8J e f 1 ⟨#[]⟩).p),i],ov [j,l,iv ((A8J e f 1 ⟨#[]⟩).g),m,.bool ((A8J e f 1 ⟨#[]⟩).p),i] (A8J e f 1 ⟨#[]⟩:C1P),_,_,_] Y<|Sr<|q1 Y (C9 0 C4u Y Y Y)<|li Y<|AZ (vs:=[j,l,iv ((A8J e f 1 ⟨#[]⟩).g),m,.bool ((A8J e f 1 ⟨#[]⟩).p),i]) (cs':=[j,l,iv ((A8J e f 1 ⟨#[]⟩).g),m,.bool ((A8J e f 1 ⟨#[]⟩).p),i]) 2 A6c Y Y Y Y Y Y (AB ad<|AB ae<|AB Y<|AB af<|AB Y<|AB ag BR) (by simp) Y ?_;refine Pe Y<|Ct<|AX true<|AG [2,0,1,3,4,5] Y (DL Y (zH (cs:=[j,l,iv ((A8J e f 1 ⟨#[]⟩).g),m,.bool ((A8J e f 1 ⟨#[]⟩).p),i]) 3 C4u Y Y) (D8 Y) λw' a=>AY (c1:=[j,l,iv ((A8J e f 1 ⟨#[]⟩).g),m,.bool ((A8J e f 1 ⟨#[]⟩).p),i]) (c2:=[.bool true]) a ?_ ?_)
  ·show(A8J e f 1 ⟨#[]⟩:C1P)=A8D e f;exact(A8r ‹_›).1
  ·show(true:Bool)=A8Z e f;exact(A8r ‹_›).2
theorem B0o{w:World}{z:List Value}{e:C1P}{a0:List Value}{f:C1G}(s:Gd.rd w z e)(t:Gd.rd w a0 f)(hn:DI e<=1048576)(aq:F9 f<=1048576)(af:Tb w):Cy 13 [(.agg z.toArray),(.agg a0.toArray)] w (O8 w (A8E e f:C1P) (A8g e f:Bool)):=by
 obtain⟨u1,u3,u5,u7,rfl,ag,a1,ah,a2⟩:=C6 s;have ar:=rM ag;have aj:=rM a1;have ak:=rM ah;have al:=rM a2;obtain⟨v,rfl,a3⟩:=AS t;have am:=rM a3;have a4:=hn;unfold DI DD at hn;refine enter 29 Tryz.func13 Y Y Y<|Sr (bX Y λg16=>?_);refine bX Y λg17=>?_
 refine aL C5i Y λg18=>?_
 refine Pe Y<|Dh [bx g18 zEs,bx g17 [.string f.p5,v],bx g16 [u1,u3,iv e.g,u5,.bool e.p,u7]] Y<|Sr<|q1 Y (C9 2 C4u Y Y Y) (qs Y A5C Y (λw' a=>A9B (rA a s) a4) λan=>?_);refine Dp (λw' a=>H5<|rO (k:=0) a Y) ?_;rintro⟨v20,v21,c,b,rfl,m,n,o,q⟩;refine aL C5i Y λj=>?_
 refine li Y<|AZ (vs:=[v20,v21,iv e.g,c,.bool e.p,b]) (cs':=[v20,v21,iv e.g,c,.bool e.p,b]) 0 A6c Y Y Y Y Y Y (AB m<|AB n<|AB Y<|AB o<|AB Y<|AB q BR) (by simp) Y ?_;refine Dx<|Dh [bx j [v20,v21,iv e.g,c,.bool e.p,b],ov [v20,v21,iv e.g,c,.bool e.p,b] (e:C1P),_,_,_] Y<|Cq<|Cq<|A1K (λy w'=>∃(jb:Bool),(jb=true->A8g e f=false)/\(jb=false->A8g e f=true)/\Fits y 29 [(3,pv g17),(4,pv g18),(6,pv j),(24,.bool jb)]/\St w ([bx j [v20,v21,iv e.g,c,.bool e.p,b],ov [v20,v21,iv e.g,c,.bool e.p,b] (e:C1P),bx g18 zEs,bx g17 [.string f.p5,v],bx g16 [u1,u3,iv e.g,u5,.bool e.p,u7]]) w') ?_ ?_
 ·refine Cr<|q1 Y (C9 4 C4u Y Y Y)<|qv B4C Y (λw' a=>WL (rA a s) a4<|Tb.ext af a.bel)<|P2 Y Y<|JQ 12 Y Y (λa5=>?_) λa5=>?_
  ·refine PE 12 Y λy w' r a=>⟨true,(λl=>?_),(λl=>by cases l),r.wk Y,a⟩
   ·exact A9v ‹_›
  ·refine fl 4 C4l A3a Y<|q1 Y (C9 3 C4N Y Y Y)<|qv A6Z Y (λw' a=>WE (rA a a1)<|rA a t)<|P3 Y Y Y<|JQ 19 Y Y (λa6=>?_) λa6=>?_
   ·refine PE 5 Y λy w' r a=>⟨true,(λl=>?_),(λl=>by cases l),r.wk Y,a⟩
    ·exact A9w ‹_›
   ·refine fl 4 C4O C5U Y<|dl C4v Y (AE a2)<|PE 2 Y λy w' r a=>⟨(decide ((500:Int)<=((e.u.length:Nat):Int))),(λl=>?_),(λl=>?_),r.wk Y,a⟩
    ·have ai:=odT l;exact B0K (by omega)
    ·have ai:=odF l;exact B0y ‹_› ‹_› (by omega)
 rintro y w' ⟨ao,ae,ad,r,a⟩;refine D.use ?_ r a;clear r a y w';refine Xt<|Ci _ Y (λx=>?_) λx=>?_
 ·have a7:=ae x;refine Sr<|q1 Y (C9 0 C4u Y Y Y)<|li Y<|AZ (vs:=[v20,v21,iv e.g,c,.bool e.p,b]) (cs':=[v20,v21,iv e.g,c,.bool e.p,b]) 2 A6c Y Y Y Y Y Y (AB m<|AB n<|AB Y<|AB o<|AB Y<|AB q BR) (by simp) Y ?_;refine Pe Y<|Ct<|Xr<|AX false<|AG [2,0,1,3,4,5] Y (DL Y (zH (cs:=[v20,v21,iv e.g,c,.bool e.p,b]) 3 C4u Y Y) (D8 Y) λw' a=>AY (c1:=[v20,v21,iv e.g,c,.bool e.p,b]) (c2:=[.bool false]) a ?_ ?_)
  ·show(e:C1P)=A8E e f;exact(A8w ‹_›).1
  ·show(false:Bool)=A8g e f;exact(A8w ‹_›).2
 ·have a7:=ad x;refine Sk<|Sr<|q1 Y (C9 3 C4N Y Y Y)<|A8O<|li Y<|cm B3x Y Y Y Y (λw' a=>B0u _ _ w' j e [.string f.p5,v] f 2 ⟨#[]⟩ (λw' a=>rA a t) ‹_› (by omega) (by omega) a) ?_;refine A8b λap=>?_
  refine Dp (λw' a=>H5<|rO (k:=1) a Y) ?_;rintro⟨h,v37,i,d,rfl,a8,a9,aa,ab⟩;refine Dx<|Dh [bx j [h,v37,iv ((A8G e f 2 ⟨#[]⟩).g),i,.bool ((A8G e f 2 ⟨#[]⟩).p),d],ov [h,v37,iv ((A8G e f 2 ⟨#[]⟩).g),i,.bool ((A8G e f 2 ⟨#[]⟩).p),d] (A8G e f 2 ⟨#[]⟩:C1P),_,_,_] Y<|Sr<|q1 Y (C9 0 C4u Y Y Y)<|li Y<|AZ (vs:=[h,v37,iv ((A8G e f 2 ⟨#[]⟩).g),i,.bool ((A8G e f 2 ⟨#[]⟩).p),d]) (cs':=[h,v37,iv ((A8G e f 2 ⟨#[]⟩).g),i,.bool ((A8G e f 2 ⟨#[]⟩).p),d]) 2 A6c Y Y Y Y Y Y (AB a8<|AB a9<|AB Y<|AB aa<|AB Y<|AB ab BR) (by simp) Y ?_;refine Pe Y<|Ct<|AX true<|AG [2,0,1,3,4,5] Y (DL Y (zH (cs:=[h,v37,iv ((A8G e f 2 ⟨#[]⟩).g),i,.bool ((A8G e f 2 ⟨#[]⟩).p),d]) 3 C4u Y Y) (D8 Y) λw' a=>AY (c1:=[h,v37,iv ((A8G e f 2 ⟨#[]⟩).g),i,.bool ((A8G e f 2 ⟨#[]⟩).p),d]) (c2:=[.bool true]) a ?_ ?_)
  ·show(A8G e f 2 ⟨#[]⟩:C1P)=A8E e f;exact(A8s ‹_›).1
  ·show(true:Bool)=A8g e f;exact(A8s ‹_›).2
theorem B0p{w:World}{z:List Value}{e:C1P}{a0:List Value}{f:C1G}(s:Gd.rd w z e)(t:Gd.rd w a0 f)(hn:DI e<=1048576)(ap:F9 f<=1048576)(ho:QC e)(aq:P9 f):Cy 103 [(.agg z.toArray),(.agg a0.toArray)] w (O8 w (A8E e f:C1P) (A8g e f:Bool)):=by
 obtain⟨u1,u3,u5,u7,rfl,af,a1,ag,a2⟩:=C6 s;have ar:=rM af;have ai:=rM a1;have aj:=rM ag;have ak:=rM a2;obtain⟨v,rfl,a3⟩:=AS t;have al:=rM a3;have a4:=hn;unfold DI DD at hn;refine enter 29 Tryz.func103 Y Y Y<|Sr (bX Y λg16=>?_);refine bX Y λg17=>?_
 refine aL C5i Y λg18=>?_
 refine Pe Y<|Dh [bx g18 zEs,bx g17 [.string f.p5,v],bx g16 [u1,u3,iv e.g,u5,.bool e.p,u7]] Y<|Sr<|q1 Y (C9 2 C4u Y Y Y) (qs Y B3v Y (λw' a=>A9a (rA a s) a4) λam=>?_);refine Dp (λw' a=>H5<|rO (k:=0) a Y) ?_;rintro⟨v20,v21,c,b,rfl,m,n,o,q⟩;refine aL C5i Y λj=>?_
 refine li Y<|AZ (vs:=[v20,v21,iv e.g,c,.bool e.p,b]) (cs':=[v20,v21,iv e.g,c,.bool e.p,b]) 0 A6c Y Y Y Y Y Y (AB m<|AB n<|AB Y<|AB o<|AB Y<|AB q BR) (by simp) Y ?_;refine Dx<|Dh [bx j [v20,v21,iv e.g,c,.bool e.p,b],ov [v20,v21,iv e.g,c,.bool e.p,b] (e:C1P),_,_,_] Y<|Cq<|Cq<|A1K (λy w'=>∃(jb:Bool),(jb=true->A8g e f=false)/\(jb=false->A8g e f=true)/\Fits y 29 [(3,pv g17),(4,pv g18),(6,pv j),(24,.bool jb)]/\St w ([bx j [v20,v21,iv e.g,c,.bool e.p,b],ov [v20,v21,iv e.g,c,.bool e.p,b] (e:C1P),bx g18 zEs,bx g17 [.string f.p5,v],bx g16 [u1,u3,iv e.g,u5,.bool e.p,u7]]) w') ?_ ?_
 ·refine Cr<|q1 Y (C9 4 C4u Y Y Y)<|qv B1x Y (λw' a=>WM (rA a s) a4 ho)<|P2 Y Y<|JQ 12 Y Y (λa5=>?_) λa5=>?_
  ·refine PE 12 Y λy w' r a=>⟨true,(λl=>?_),(λl=>by cases l),r.wk Y,a⟩
   ·exact A9v ‹_›
  ·refine fl 4 C4l A3a Y<|q1 Y (C9 3 C4N Y Y Y)<|qv A3x Y (λw' a=>dU (rA a a1)<|rA a t)<|P3 Y Y Y<|oV 19 Y Y (λa6=>?_) λa6=>?_
   ·refine PE 5 Y λy w' r a=>⟨true,(λl=>?_),(λl=>by cases l),r.wk Y,a⟩
    ·exact A9e (by omega)
   ·refine fl 4 C4O C5U Y<|dl C4v Y (AE a2)<|PE 2 Y λy w' r a=>⟨((((e.u.length:Nat):Int):Int)==500),(λl=>?_),(λl=>?_),r.wk Y,a⟩
    ·have ah:=eq_of_beq l;exact B0K (by omega)
    ·have ah:=JH l;exact B1P ‹_› (by omega) (by omega)
 rintro y w' ⟨an,ae,ad,r,a⟩;refine D.use ?_ r a;clear r a y w';refine Xt<|Ci _ Y (λx=>?_) λx=>?_
 ·have a7:=ae x;refine Sr<|q1 Y (C9 0 C4u Y Y Y)<|li Y<|AZ (vs:=[v20,v21,iv e.g,c,.bool e.p,b]) (cs':=[v20,v21,iv e.g,c,.bool e.p,b]) 2 A6c Y Y Y Y Y Y (AB m<|AB n<|AB Y<|AB o<|AB Y<|AB q BR) (by simp) Y ?_;refine Pe Y<|Ct<|Xr<|AX false<|AG [2,0,1,3,4,5] Y (DL Y (zH (cs:=[v20,v21,iv e.g,c,.bool e.p,b]) 3 C4u Y Y) (D8 Y) λw' a=>AY (c1:=[v20,v21,iv e.g,c,.bool e.p,b]) (c2:=[.bool false]) a ?_ ?_)
  ·show(e:C1P)=A8E e f;exact(A8w ‹_›).1
  ·show(false:Bool)=A8g e f;exact(A8w ‹_›).2
 ·have a7:=ad x;refine Sk<|Sr<|q1 Y (C9 3 C4N Y Y Y)<|A8O<|li Y<|cm A3S Y Y Y Y (λw' a=>A9z _ _ w' j e [.string f.p5,v] f 2 ⟨#[]⟩ (λw' a=>rA a t) ‹_› (by omega) (by omega) a) ?_;refine A8b λao=>?_
  refine Dp (λw' a=>H5<|rO (k:=1) a Y) ?_;rintro⟨h,v37,i,d,rfl,a8,a9,aa,ab⟩;refine Dx<|Dh [bx j [h,v37,iv ((A8G e f 2 ⟨#[]⟩).g),i,.bool ((A8G e f 2 ⟨#[]⟩).p),d],ov [h,v37,iv ((A8G e f 2 ⟨#[]⟩).g),i,.bool ((A8G e f 2 ⟨#[]⟩).p),d] (A8G e f 2 ⟨#[]⟩:C1P),_,_,_] Y<|Sr<|q1 Y (C9 0 C4u Y Y Y)<|li Y<|AZ (vs:=[h,v37,iv ((A8G e f 2 ⟨#[]⟩).g),i,.bool ((A8G e f 2 ⟨#[]⟩).p),d]) (cs':=[h,v37,iv ((A8G e f 2 ⟨#[]⟩).g),i,.bool ((A8G e f 2 ⟨#[]⟩).p),d]) 2 A6c Y Y Y Y Y Y (AB a8<|AB a9<|AB Y<|AB aa<|AB Y<|AB ab BR) (by simp) Y ?_;refine Pe Y<|Ct<|AX true<|AG [2,0,1,3,4,5] Y (DL Y (zH (cs:=[h,v37,iv ((A8G e f 2 ⟨#[]⟩).g),i,.bool ((A8G e f 2 ⟨#[]⟩).p),d]) 3 C4u Y Y) (D8 Y) λw' a=>AY (c1:=[h,v37,iv ((A8G e f 2 ⟨#[]⟩).g),i,.bool ((A8G e f 2 ⟨#[]⟩).p),d]) (c2:=[.bool true]) a ?_ ?_)
  ·show(A8G e f 2 ⟨#[]⟩:C1P)=A8E e f;exact(A8s ‹_›).1
  ·show(true:Bool)=A8g e f;exact(A8s ‹_›).2
end Go.Sy.Put2
end
/-
  What is drawn: memories.
  Conditions: those that each theorem states.
-/
section
namespace Go.Sy
open Go
end Go.Sy
end
