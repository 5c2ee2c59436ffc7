/-
  Contracts of functions of the program, walked (printed by a program of ours).
  Conditions: those that each theorem states.
-/
import Derived.Test.YtbnpgdcpbmaebaaGreatDoorFct
import Derived.Test.YtbnpgdcpbmaebaaGreatDoorMat1
import Derived.Test.YtbnpgdcpbmaebaaGreatDoorMat
set_option linter.unusedVariables false
set_option maxRecDepth 20000
namespace Go.Sy.Mat2
open Go Go.RowKit Go.Proofs Go.Sy
open Go.Sy.Bel1 Go.Sy.Ev1 Go.Sy.Ev3 Go.Sy.Fmt1 Go.Sy.Eng1 Go.Sy.Eng2 Go.Sy.Eng3 Go.Sy.Eng4 Go.Sy.Num1 Go.Sy.Num2 Go.Sy.Fal2 Go.Sy.Cho2 Go.Sy.Mat1
theorem eS{w:World}{b:List Value}{x:Cond}(a:Gd.rd w b x):Cy 120 [(.agg b.toArray)] w (Val w (.bool (IA x))):=by
 obtain⟨d,rfl,c⟩:=A8 a;have e:=rM c;have f:=AK a;refine enter 10 Tryz.func120 Y Y Y (Sr (bX Y λg5=>?_));refine Pe Y (Dh ([bx g5 [(iv x.Kind),(.string x.Pattern.Rel),d,(.string x.Left),(.string x.Right)]]) Y (Sr (q1 Y (C9 0 C1N Y Y Y) (qv A7C Y (λw' hs=>(NJ (rA hs a))) (p1 Y (gs 5 Y Y (λg=>?_) (λg=>?_)))))))
 ·refine fl 0 B4h CJ Y (P3 Y Y Y (Dx (Ct (Rb Y Y ?_))));show((decide ((3:Int)<=x.Kind)):Bool)=_;unfold IA;simp_all
 ·refine n1 Y (n1 Y (n1 Y (P2 Y Y (Dx (Ct (Rb Y Y ?_))))));unfold IA;simp_all
theorem U9{w:World}{d:List Value}{x:Cond}{e:Value}{b:(List Pair)}(c:Gd.rd w d x)(a:Gd.rd w [e] b)(f:Tb w):Cy 46 [(.agg d.toArray),e] w (Val w (.bool (E3 x b))):=by
 obtain⟨p,rfl,k⟩:=A8 c;have q:=rM k;have r:=AK c;have s:=rM a;refine enter 70 Tryz.func46 Y Y Y (Sr (bX Y λg6=>?_));refine Pe Y (Dh ([bx g6 [(iv x.Kind),(.string x.Pattern.Rel),p,(.string x.Left),(.string x.Right)]]) Y (Cq (Sr (q1 Y (C9 0 C1N Y Y Y) (qv B3V Y (λw' hs=>(eS (rA hs c))) (P2 Y Y (JQ 14 Y Y (λl=>?_) (λl=>?_))))))))
 ·refine n1 Y (n1 Y (n1 Y (Pe Y (GF Y (Sr (Pe Y (Ct (Xr (Rb Y Y ?_)))))))));unfold E3;simp_all[DY]
 ·refine p1 Y (qv A7D Y (λw' hs=>(IC (rA hs a))) (P2 Y Y (Dx (CN Y (λm=>?_) (λm=>?_)))))
  ·refine Sr (Pe Y (Ct (Xr (Rb Y Y ?_))));unfold E3;simp_all[DY]
  ·refine Sk (Sr (p1 Y (fl 0 B4z BK Y (lM A6w Y (λw' hs=>(MJ (rA hs a))) (v:=(.tuple #[(.string (EJ b x.Left)),(.bool (HU b x.Left))])) Y (P3 Y Y Y (P2 Y Y (Dx (AH [1,2,5,6] Y (Sr (p1 Y (fl 0 B4x BK Y (lM A6w Y (λw' hs=>(MJ (rA hs a))) (v:=(.tuple #[(.string (EJ b x.Right)),(.bool (HU b x.Right))])) Y (P3 Y Y Y (P2 Y Y (Dx (Cq (Sr ?_)))))))))))))))));refine P3 Y Y Y (JQ 35 Y Y (λg=>?_) (λg=>?_))
   ·refine n1 Y (n1 Y (Pe Y (AH [2,5,7,38] Y (GF Y (Sr (Pe Y (Ct (Xr (Rb Y Y ?_)))))))));unfold E3;simp_all[DY]
   ·refine P3 Y Y Y (Dx (AH [2,5,7,38] Y (CN Y (λh=>?_) (λh=>?_))))
    ·refine Sr (Pe Y (Ct (Xr (Rb Y Y ?_))));unfold E3;simp_all[DY]
    ·refine Sk (Cq (Sr (fl 0 B4h CJ Y (Dx (Cb (Sr (P2 Y Y (Dx (Ce Y (λi=>?_) (λi=>?_))))))))))
     ·refine Sr (P2 Y Y (q1 Y (DO Y Y Y) (Pe Y (Ct (Xq (Xr (Rb Y Y ?_)))))));show((decide (((EJ b x.Left):ByteArray)=(EJ b x.Right))):Bool)=_;unfold E3;simp_all[DY]
     ·refine Sr (P2 Y Y (Dx (Ce Y (λj=>?_) (λj=>?_))))
      ·refine Sr (P2 Y Y (q1 Y (E5 Y Y Y) (Pe Y (Ct (Xq (Xr (Rb Y Y ?_)))))));show((!(decide (((EJ b x.Left):ByteArray)=(EJ b x.Right)))):Bool)=_;unfold E3;simp_all[DY]
      ·refine Ck (Xb (Xt (Sr (p1 Y (lM B3W Y (λw' hs=>(I0 (Tb.ext f hs.bel))) (v:=(.tuple #[(iv (pI (EJ b x.Left))),(.bool (pO (EJ b x.Left)))])) Y (P3 Y Y Y (P2 Y Y (Dx (Sr (p1 Y (lM B3W Y (λw' hs=>(I0 (Tb.ext f hs.bel))) (v:=(.tuple #[(iv (pI (EJ b x.Right))),(.bool (pO (EJ b x.Right)))])) Y (P3 Y Y Y (P2 Y Y (Dx (AH [6,8,9,10] Y (AG [] Y (Sr (P2 Y Y (gs 62 Y Y (λn=>?_) (λn=>?_))))))))))))))))))))
       ·refine P3 Y Y Y (gs 65 Y Y (λo=>?_) (λo=>?_))
        ·refine P3 Y Y Y (P2 Y Y (Dx (Ct (Rb Y Y ?_))));show((decide (((pI (EJ b x.Left)):Int)<(pI (EJ b x.Right)))):Bool)=_;unfold E3;simp_all[DY]
        ·refine n1 Y (n1 Y (n1 Y (P2 Y Y (Dx (Ct (Rb Y Y ?_))))));unfold E3;simp_all[DY]
       ·refine n1 Y (P2 Y Y (n1 Y (n1 Y (n1 Y (P2 Y Y (Dx (Ct (Rb Y Y ?_))))))));unfold E3;simp_all[DY]
theorem KM{w:World}{q:List Value}{p:Pattern}{m:Value}{b:(List Pair)}{d:Value}{facts:(List Fact)}(r:Gd.rd w q p)(s:Gd.rd w [m] b)(a:Gd.rd w [d] facts)(z:DD F9 facts<=1048576)(a4:b.length<=1048576):Cy 45 [(.agg q.toArray),m,d] w (HH w (nT p b facts:List Fact)):=by
 obtain⟨u1,rfl,u⟩:=B8 r;have a5:=rM u;have a6:=rM s;have a7:=rM a;have a8:=z;unfold DD at z;refine enter 33 Tryz.func45 Y Y Y (Sr (bX Y λg6=>?_));refine Pe Y (Dh ([bx g6 [(.string p.Rel),u1]]) Y (Sr (Pe Y (Cq (Sr (p1 Y (dl C1O Y (AE a) (Pe Y (Cb (Cl (λm_ ac w'=>∃(k:Nat),∃(v:Value),(k<=facts.length)/\m_=facts.length-k/\Fits ac 33 [(1,m),(3,(pv g6)),(7,v),(12,d),(13,(nv facts.length)),(14,(nv k))]/\St w ([ov [v] ((facts.take k).filter (λf=>DC p f b):(List Fact)),bx g6 [(.string p.Rel),u1]]) w') ?_ ?_))))))))))
 ·refine CG (α:=Fact) (A3 0 Y (show([]:(List Fact))=(facts.take 0).filter (λf=>DC p f b) from by simp) (λac w' hf hs=>⟨_,0,(.slice none 0 0),?_,Y,hf.wk Y,hs⟩))
  ·omega
 ·rintro m_ ac w' ⟨k,v,hk,rfl,hf,hs⟩;refine D.use ?_ hf hs;clear hf hs ac w';have hcl:=eI (λf=>DC p f b) facts k;refine Sr (Pe Y (Dh ([_,_]) Y (Cq (Cd Y (λx=>?_) (λx=>?_)))))
  ·refine Sk (Cq (Cb (Sr ?_)));obtain⟨h,e⟩:=sI facts k;have hle:=C8 (c:=F9) (List.mem_of_getElem? e);obtain⟨a9,at9,g⟩:=AC (n:=2) rfl a e;obtain⟨o,rfl,i⟩:=AS g;have a0:=rM i;refine q1 Y (AJ (l:=facts) (j:=k) C1O Y Y Y (λw' hs=>(rA hs a)) Y (lS e)) (q1 Y (EX B4Z Y Y at9) (aL B4n Y λg14=>?_));refine li Y (AZ (vs:=[(.string h.Rel),o]) (cs':=[(.string h.Rel),o]) 0 B5j Y Y Y Y Y Y (AB Y (AB (A2 i) BR)) (by simp) Y ?_);refine Dx (Dh ([bx g14 [(.string h.Rel),o],_,_]) Y (Sr (q1 Y (C9 2 B4a Y Y Y) (q1 Y (C9 0 B4Z Y Y Y) (p1 Y (qc2 A3W Y (λw' hs=>(N0 (rA hs r) (rA hs g) (rA hs s) ‹_›)) λa1 t=>?_))))));refine Dp (λw' hs=>CL (rO (k:=0) hs Y)) ?_;rintro⟨v17,rfl⟩;refine Dp (λw' hs=>show t=[(.bool (DC p h b))] from rO (k:=1) hs Y) ?_;rintro rfl;refine MS 22 (v':=(.tuple #[v17,(.bool (DC p h b))])) Y Y Y (AG [0,2,3,4] Y (P3 Y Y Y (P2 Y Y (Dx (Dh ([ov [v17] (GH p h b:(List Pair)),_,_,_]) Y (Sr (Pe Y (Ci _ Y (λy=>?_) (λy=>?_)))))))))
   ·refine Cr (p1 Y (q1 Y (C9 1 B4Z Y Y Y) (qs Y B2w Y (λw' hs=>(I1 (rA hs g) (by omega))) λa2=>?_)));refine Dp (λw' hs=>EZ (rO (k:=0) hs Y)) ?_;rintro⟨v20,rfl,a3⟩;refine li Y (FF C1O B4n Y (by decide) (by decide) Y Y Y Y Y Y λg22=>?_);refine AG [4,1,0,2,3,5] Y (li Y (GZ C1O B4n Y (by decide) Y Y Y Y Y Y (by omega) (by omega) λv23=>?_));refine p1 Y (De (Xb (Xt (AH [1,3,7,12,13,14] Y (AG [0,3] Y (Dh ([ov [v23] (((facts.take k).filter (λf=>DC p f b))++ [h]:(List Fact)),_]) Y (Cr (ad (k+1) Y (Pe Y (A3 0 Y (show(((facts.take k).filter (λf=>DC p f b))++ [h]:(List Fact))=(facts.take (k+1)).filter (λf=>DC p f b) from by exact uB (p:=λf=>DC p f b) e ‹_›) (λac w' hf hs=>⟨_,?_,k+1,v23,?_,Y,hf.wk Y,hs⟩)))))))))))
    ·omega
    ·omega
   ·refine Ck (Xb (Xt (Cr (ad (k+1) Y (Pe Y (A3 2 Y (show((facts.take k).filter (λf=>DC p f b):(List Fact))=(facts.take (k+1)).filter (λf=>DC p f b) from by exact uC (p:=λf=>DC p f b) e ‹_›) (λac w' hf hs=>⟨_,?_,k+1,v,?_,Y,hf.wk Y,hs.pk [2,3] Y Y⟩)))))))
    ·omega
    ·omega
  ·refine Cx (Xx (Xx (Xe (Xt (Sr (P2 Y Y (Dx (Ct (FV Y Y λw' hs=>A7 (k:=0) hs Y ?_)))))))));show(facts.take k).filter (λf=>DC p f b)=nT p b facts;unfold nT;rw[List.take_of_length_le (by omega)]
theorem VB{w:World}{f:List Value}{x:Cond}{g:Value}{b:(List Pair)}{c:Value}{facts:(List Fact)}(e:Gd.rd w f x)(d:Gd.rd w [g] b)(a:Gd.rd w [c] facts)(y:DD F9 facts<=1048576)(p:b.length<=1048576)(k:Tb w):Cy 11 [(.agg f.toArray),g,c] w (Val w (.bool (holdB x b facts))):=by
 obtain⟨l,rfl,m⟩:=A8 e;have r:=rM m;have h:=AK e;have s:=rM d;have t:=rM a;refine enter 38 Tryz.func11 Y Y Y (Sr (bX Y λg7=>?_));refine Pe Y (Dh ([bx g7 [(iv x.Kind),(.string x.Pattern.Rel),l,(.string x.Left),(.string x.Right)]]) Y (Cq (Sr (q1 Y (C9 0 C1N Y Y Y) (qv A7C Y (λw' hs=>(NJ (rA hs e))) (P2 Y Y (JQ 10 Y Y (λn=>?_) (λn=>?_))))))))
 ·refine n1 Y (n1 Y (n1 Y (Pe Y (GF Y (Sr (Pe Y (Ct (Xr (Rb Y Y ?_)))))))));unfold holdB;simp_all
 ·refine p1 Y (qv A7D Y (λw' hs=>(IC (rA hs d))) (P2 Y Y (Dx (CN Y (λo=>?_) (λo=>?_)))))
  ·refine Sr (Pe Y (Ct (Xr (Rb Y Y ?_))));unfold holdB;simp_all
  ·refine Sk (Cq (Sr (fl 0 B4h CJ Y (Dx (Cb (Sr (P2 Y Y (Dx (Ce Y (λi=>?_) (λi=>?_))))))))))
   ·refine Sr (q1 Y (Db C1K Y Y (q:=1) Y) (q1 Y (H2 (es:=[(.string x.Pattern.Rel),l]) 0 B4a Y Y Y Y) (P2 Y Y (ql A4E Y (λw' hs=>(KM (rA hs h) (rA hs d) (rA hs a) ‹_› ‹_›)) λu=>?_))));refine q1 Y (B7 0 C1O Y Y Y) (P2 Y Y (Dx (Ct (Xq (Xr (Rb Y Y ?_))))));show((decide ((0:Int)<(((nT x.Pattern b facts).length:Nat):Int))):Bool)=_;unfold holdB;simp_all
   ·refine Sr (P2 Y Y (Dx (AH [1,2,3,26] Y (Ce Y (λj=>?_) (λj=>?_)))))
    ·refine Sr (q1 Y (Db C1K Y Y (q:=1) Y) (q1 Y (H2 (es:=[(.string x.Pattern.Rel),l]) 0 B4a Y Y Y Y) (P2 Y Y (ql A4E Y (λw' hs=>(KM (rA hs h) (rA hs d) (rA hs a) ‹_› ‹_›)) λv=>?_))));refine q1 Y (B7 0 C1O Y Y Y) (P2 Y Y (Dx (Ct (Xq (Xr (Rb Y Y ?_))))));show((((((nT x.Pattern b facts).length:Nat):Int):Int)==0):Bool)=_;unfold holdB;simp_all;rw[Bool.eq_iff_iff];simp
    ·refine Ck (Xb (Xt (Sr (q1 Y (C9 0 C1N Y Y Y) (p1 Y (qv B1y Y (λw' hs=>(U9 (rA hs e) (rA hs d) (Tb.ext k hs.bel))) (Pe Y (Ct (Rb Y Y ?_)))))))));show((E3 x b):Bool)=_;unfold holdB;simp_all
end Go.Sy.Mat2
