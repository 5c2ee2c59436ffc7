/-
  Contracts of functions of the program, walked (printed by a program of ours).
  Conditions: those that each theorem states.
-/
import Derived.Test.YtfmjgnjaoihefaaGreatDoorFct
import Derived.Test.YtfmjgnjaoihefaaGreatDoorEv1
import Derived.Test.YtfmjgnjaoihefaaGreatDoorEng
set_option linter.unusedVariables false
set_option maxRecDepth 20000
namespace Go.Sy.Ev2
open Go Go.RowKit Go.Proofs Go.Sy
open Go.Sy.Bel1 Go.Sy.Ev1
theorem NE{w:World}{b:List Value}{a:Pattern}{left:Int}(e:Gd.rd w b a)(h0:0<=left)(h1:left<=1048576)(g:IP a):Cy 236 [(.agg b.toArray),(iv left)] w (Val w (iv (ED (E8 a) left))):=by
 obtain⟨i,rfl,c⟩:=B8 e;have j:=rM c;have k:a.Rel.size<=9223372036854775807:=g.1;refine enter 19 Tryz.func236 Y Y Y (Sr (bX Y λg4=>?_));refine Pe Y (Dh ([bx g4 [(.string a.Rel),i]]) Y (Sr (p1 Y (fl 0 iH BK Y (q1 Y (FZ F5 Y Y) (q1 Y (B3 Y Y Y Y (by omega)) (Pe Y (Cq (Sr (P2 Y Y (Dx (Cd Y (λf=>?_) (λf=>?_)))))))))))))
 ·refine Sr (Pe Y (Ct (Xr (Ri Y Y ?_))));show((-1):Int)=_;unfold E8 ED at*;repeat (split at* <;>try omega)
 ·refine Sk (Sr (fl 0 iI B5 Y (p1 Y (qv zL Y (λw' hs=>(NA (rA hs c) (by omega) (by omega) g.2)) (Pe Y (Cq (Sr (P2 Y Y (Dx (AH [1,17] Y (AG [] Y (Cd Y (λd=>?_) (λd=>?_)))))))))))))
  ·refine Sr (Pe Y (Ct (Xr (Ri Y Y ?_))));show((-1):Int)=_;unfold E8 ED at*;repeat (split at* <;>try omega)
  ·have h:=EE d;refine Sk (Sr (P2 Y Y (Dx (Ct (Ri Y Y ?_)))));show((ED (M9 a.Args) (left-((a.Rel.size:Nat):Int))):Int)=_;unfold E8 ED at*;repeat (split at* <;>try omega)
theorem NF{w:World}{d:List Value}{a:Pattern}(f:Gd.rd w d a)(g:E8 a<=1048576):Cy 237 [(.agg d.toArray)] w (HH w (a:Pattern)):=by
 obtain⟨h,rfl,e⟩:=B8 f;have i:=rM e;unfold E8 at g;unfold M9 at g;refine enter 12 Tryz.func237 Y Y Y (Sr (bX Y λg4=>?_));refine aL A3E Y λg5=>?_
 refine Dx (Dh ([bx g5 [(.string ⟨#[]⟩),(.slice none 0 0)],bx g4 [(.string a.Rel),h]]) Y (Sr (aL A3E Y λg6=>?_)));refine Dx (Dh ([bx g6 [(.string ⟨#[]⟩),(.slice none 0 0)],_,_]) Y (Sr (fl 2 iH BK Y (q1 Y (Db H6 Y Y (q:=0) Y) (li Y (AZ (vs:=[(.string a.Rel)]) (cs':=[(.string a.Rel),(.slice none 0 0)]) 0 VI Y Y Y Y Y Y (AB Y BR) (by simp) Y ?_))))));refine Dx (Dh ([bx g6 [(.string a.Rel),(.slice none 0 0)],_,_]) Y (Sr (fl 2 iI B5 Y (ql zN Y (λw' hs=>(NB (rA hs e) (by omega))) λc=>?_))));refine q1 Y (Db C4 Y Y (q:=1) Y) (Dp (λw' hs=>CZ (k:=0) hs Y) ?_);intro b;refine li Y (AZ (vs:=[c]) (cs':=[(.string a.Rel),c]) 1 A3D Y Y Y Y Y (AO b) (AB b BR) (by simp) Y ?_);refine Dx (Dh ([ov [c] (a.Args:(List ByteArray)),bx g6 [(.string a.Rel),c],_,_]) Y (Sr (q1 Y (C9 1 HA Y Y Y) (li Y (AZ (vs:=[(.string a.Rel),c]) (cs':=[(.string a.Rel),c]) 2 A1R Y Y Y Y Y Y (AB Y (AB b BR)) (by simp) Y ?_)))));refine Dx (Ct (fK (r:=(a:Pattern)) (eW 2 HA Y Y Y λw' hs=>A7 (k:=0) hs Y ?_)));show(a:Pattern)=a;rfl
theorem NG{w:World}{c:List Value}{a:Pattern}{d:List Value}{b:Pattern}(h:Gd.rd w c a)(i:Gd.rd w d b):Cy 238 [(.agg c.toArray),(.agg d.toArray)] w (Val w (.bool (decide (a=b)))):=by
 obtain⟨k,rfl,e⟩:=B8 h;have l:=rM e;obtain⟨m,rfl,f⟩:=B8 i;have n:=rM f;refine enter 16 Tryz.func238 Y Y Y (Sr (bX Y λg7=>?_));refine bX Y λg8=>?_
 refine Pe Y (Dh ([bx g8 [(.string b.Rel),m],bx g7 [(.string a.Rel),k]]) Y (Cq (Sr (fl 1 H6 BK Y (fl 0 H6 BK Y (q1 Y (E5 Y Y Y) (Dx (R8 Y (λj=>?_) (λj=>?_)))))))))
 ·refine Sr (Pe Y (Ct (Xr (Rb Y Y ?_))))
  cases a;cases b;simp_all
 ·refine Sk (Cq (Sr (fl 1 C4 B5 Y (fl 0 C4 B5 Y (qv zP Y (λw' hs=>(NC (rA hs e) (rA hs f))) (Pe Y (AH [15] Y (AG [] Y (CN Y (λg=>?_) (λg=>?_))))))))))
  ·refine Sr (Pe Y (Ct (Xr (Rb Y Y ?_))))
   cases a;cases b;simp_all
  ·refine Sk (Sr (Pe Y (Ct (Rb Y Y ?_))))
   cases a;cases b;simp_all
theorem bM{w:World}{b:List Value}{a:Cond}{left:Int}(c:Gd.rd w b a)(h0:0<=left)(h1:left<=1048576)(e:LB a):Cy 179 [(.agg b.toArray),(iv left)] w (Val w (iv (ED (BW a) left))):=by
 obtain⟨j,rfl,f⟩:=A8 c;have l:=rM f;have g:=AK c;have m:a.Left.size<=9223372036854775807:=e.2.2.1;have n:a.Right.size<=9223372036854775807:=e.2.2.2;refine enter 26 Tryz.func179 Y Y Y (Sr (bX Y λg5=>?_));refine Pe Y (Dh ([bx g5 [(iv a.Kind),(.string a.Pattern.Rel),j,(.string a.Left),(.string a.Right)]]) Y (Sr (q1 Y (Db iJ Y Y (q:=1) Y) (q1 Y (H2 (es:=[(.string a.Pattern.Rel),j]) 0 iK Y Y Y Y) (p1 Y (qv zQ Y (λw' hs=>(NE (rA hs g) ‹_› ‹_› e.2.1)) (Pe Y (Cq (Sr (P2 Y Y (Dx (Cd Y (λd=>?_) (λd=>?_)))))))))))))
 ·refine Sr (Pe Y (Ct (Xr (Ri Y Y ?_))));show((-1):Int)=_;unfold BW ED at*;repeat (split at* <;>try omega)
 ·have k:=EE d;refine Sk (Sr (p1 Y (fl 0 iL BK Y (q1 Y (FZ F5 Y Y) (q1 Y (B3 Y Y Y Y (by omega)) (Pe Y (Cq (Sr (P2 Y Y (Dx (Cd Y (λh=>?_) (λh=>?_))))))))))))
  ·refine Sr (Pe Y (Ct (Xr (Ri Y Y ?_))));show((-1):Int)=_;unfold BW ED at*;repeat (split at* <;>try omega)
  ·refine Sk (AH [1,2] Y (Sr (p1 Y (fl 0 iM BK Y (q1 Y (FZ F5 Y Y) (q1 Y (B3 Y Y Y Y (by omega)) (Pe Y (Cq (Sr (P2 Y Y (Dx (Cd Y (λi=>?_) (λi=>?_)))))))))))))
   ·refine Sr (Pe Y (Ct (Xr (Ri Y Y ?_))));show((-1):Int)=_;unfold BW ED at*;repeat (split at* <;>try omega)
   ·refine Sk (Sr (P2 Y Y (Dx (Ct (Ri Y Y ?_)))));show((((ED (E8 a.Pattern) left)-((a.Left.size:Nat):Int))-((a.Right.size:Nat):Int)):Int)=_;unfold BW ED at*;repeat (split at* <;>try omega)
theorem bO{w:World}{c:List Value}{a:Cond}(d:Gd.rd w c a)(h:BW a<=1048576):Cy 183 [(.agg c.toArray)] w (HH w (a:Cond)):=by
 obtain⟨g,rfl,e⟩:=A8 d;have i:=rM e;have f:=AK d;unfold BW at h;refine enter 18 Tryz.func183 Y Y Y (Sr (bX Y λg5=>?_));refine aL MN Y λg6=>?_
 refine Dx (Dh ([bx g6 [(iv 0),(.string ⟨#[]⟩),(.slice none 0 0),(.string ⟨#[]⟩),(.string ⟨#[]⟩)],bx g5 [(iv a.Kind),(.string a.Pattern.Rel),g,(.string a.Left),(.string a.Right)]]) Y (Sr (aL MN Y λg7=>?_)));refine Dx (Dh ([bx g7 [(iv 0),(.string ⟨#[]⟩),(.slice none 0 0),(.string ⟨#[]⟩),(.string ⟨#[]⟩)],_,_]) Y (Sr (fl 2 vW CJ Y (q1 Y (Db C0 Y Y (q:=0) Y) (li Y (AZ (vs:=[(iv a.Kind)]) (cs':=[(iv a.Kind),(.string ⟨#[]⟩),(.slice none 0 0),(.string ⟨#[]⟩),(.string ⟨#[]⟩)]) 0 PC Y Y Y Y Y Y (AB Y BR) (by simp) Y ?_))))));refine Dx (Dh ([bx g7 [(iv a.Kind),(.string ⟨#[]⟩),(.slice none 0 0),(.string ⟨#[]⟩),(.string ⟨#[]⟩)],_,_]) Y (Sr (q1 Y (Db iJ Y Y (q:=1) Y) (q1 Y (H2 (es:=[(.string a.Pattern.Rel),g]) 2 iK Y Y Y Y) (qs Y zR Y (λw' hs=>(NF (rA hs f) (by omega))) λj=>?_)))));refine Dp (λw' hs=>OO (rO (k:=0) hs Y)) ?_;rintro⟨v9,rfl,b⟩;refine q1 Y (Db CB Y Y (q:=1) Y) (li Y (AZ (vs:=[(.string a.Pattern.Rel),v9]) (cs':=[(iv a.Kind),(.string a.Pattern.Rel),v9,(.string ⟨#[]⟩),(.string ⟨#[]⟩)]) 1 A1R Y Y Y Y Y Y (AB Y (AB b BR)) (by simp) Y ?_));refine Dx (Dh ([ov [(.string a.Pattern.Rel),v9] (a.Pattern:Pattern),bx g7 [(iv a.Kind),(.string a.Pattern.Rel),v9,(.string ⟨#[]⟩),(.string ⟨#[]⟩)],_,_]) Y (Sr (fl 3 iL BK Y (q1 Y (Db EO Y Y (q:=3) Y) (li Y (AZ (vs:=[(.string a.Left)]) (cs':=[(iv a.Kind),(.string a.Pattern.Rel),v9,(.string a.Left),(.string ⟨#[]⟩)]) 1 VI Y Y Y Y Y Y (AB Y BR) (by simp) Y ?_))))));refine Dx (Dh ([_,bx g7 [(iv a.Kind),(.string a.Pattern.Rel),v9,(.string a.Left),(.string ⟨#[]⟩)],_,_]) Y (Sr (fl 3 iM BK Y (q1 Y (Db D5 Y Y (q:=4) Y) (li Y (AZ (vs:=[(.string a.Right)]) (cs':=[(iv a.Kind),(.string a.Pattern.Rel),v9,(.string a.Left),(.string a.Right)]) 1 VI Y Y Y Y Y Y (AB Y BR) (by simp) Y ?_))))));refine Dx (AH [2,3] Y (AG [0,1,2] Y (Dh ([_,bx g7 [(iv a.Kind),(.string a.Pattern.Rel),v9,(.string a.Left),(.string a.Right)],_]) Y (Sr (q1 Y (C9 1 D4 Y Y Y) (li Y (AZ (vs:=[(iv a.Kind),(.string a.Pattern.Rel),v9,(.string a.Left),(.string a.Right)]) (cs':=[(iv a.Kind),(.string a.Pattern.Rel),v9,(.string a.Left),(.string a.Right)]) 2 M3 Y Y Y Y Y Y (AB Y (AB Y (AB b (AB Y (AB Y BR))))) (by simp) Y ?_)))))));refine Dx (Ct (BB (α:=ByteArray) (β:=(List ByteArray)) (c1:=[(.string a.Pattern.Rel)]) (c2:=[v9]) (x:=a.Pattern.Rel) (y:=(a.Pattern.Args)) Y Y (BZ [] 1 Y (iA (r:=(a:Cond)) (eW 2 D4 Y Y Y λw' hs=>A7 (k:=0) hs Y ?_)))));show(a:Cond)=a;rfl
theorem bP{w:World}{c:List Value}{a:Cond}{d:List Value}{b:Cond}(e:Gd.rd w c a)(f:Gd.rd w d b):Cy 186 [(.agg c.toArray),(.agg d.toArray)] w (Val w (.bool (decide (a=b)))):=by
 obtain⟨o,rfl,k⟩:=A8 e;have r:=rM k;have l:=AK e;obtain⟨p,rfl,m⟩:=A8 f;have s:=rM m;have n:=AK f;refine enter 26 Tryz.func186 Y Y Y (Sr (bX Y λg9=>?_));refine bX Y λg10=>?_
 refine Pe Y (Dh ([bx g10 [(iv b.Kind),(.string b.Pattern.Rel),p,(.string b.Left),(.string b.Right)],bx g9 [(iv a.Kind),(.string a.Pattern.Rel),o,(.string a.Left),(.string a.Right)]]) Y (Cq (Sr (fl 1 C0 CJ Y (fl 0 C0 CJ Y (Pe Y (Cn Y (λg=>?_) (λg=>?_))))))))
 ·refine Sr (Pe Y (Ct (Xr (Rb Y Y ?_))))
  cases a;cases b;simp_all
 ·refine Sk (Cq (Sr (q1 Y (Db CB Y Y (q:=1) Y) (q1 Y (H2 (es:=[(.string a.Pattern.Rel),o]) 1 HA Y Y Y Y) (q1 Y (Db CB Y Y (q:=1) Y) (q1 Y (H2 (es:=[(.string b.Pattern.Rel),p]) 0 HA Y Y Y Y) (qv zS Y (λw' hs=>(NG (rA hs l) (rA hs n))) (Pe Y (CN Y (λh=>?_) (λh=>?_))))))))))
  ·refine Sr (Pe Y (Ct (Xr (Rb Y Y ?_))))
   cases a;cases b;simp_all
  ·refine Sk (Cq (Sr (fl 1 EO BK Y (fl 0 EO BK Y (q1 Y (E5 Y Y Y) (Dx (AH [2,3,20] Y (R8 Y (λi=>?_) (λi=>?_)))))))))
   ·refine Sr (Pe Y (Ct (Xr (Rb Y Y ?_))))
    cases a;cases b;simp_all
   ·refine Sk (Cq (Sr (fl 1 D5 BK Y (fl 0 D5 BK Y (q1 Y (E5 Y Y Y) (Dx (R8 Y (λj=>?_) (λj=>?_))))))))
    ·refine Sr (Pe Y (Ct (Xr (Rb Y Y ?_))))
     cases a;cases b;simp_all
    ·refine Sk (Sr (Pe Y (Ct (Rb Y Y ?_))))
     cases a;cases b;simp_all
theorem VQ{w:World}{b:List Value}{a:Action}{left:Int}(c:Gd.rd w b a)(h0:0<=left)(h1:left<=1048576)(i:QB a):Cy 180 [(.agg b.toArray),(iv left)] w (Val w (iv (ED (CV a) left))):=by
 obtain⟨g,rfl,e⟩:=CH c;have j:=rM e;have f:=A9 c;refine enter 12 Tryz.func180 Y Y Y (Sr (bX Y λg5=>?_));refine Pe Y (Dh ([bx g5 [(iv a.Kind),(.string a.Pattern.Rel),g]]) Y (Sr (q1 Y (Db iN Y Y (q:=1) Y) (q1 Y (H2 (es:=[(.string a.Pattern.Rel),g]) 0 iK Y Y Y Y) (p1 Y (qv zQ Y (λw' hs=>(NE (rA hs f) ‹_› ‹_› i.2)) (Pe Y (Cq (Sr (P2 Y Y (Dx (Cd Y (λd=>?_) (λd=>?_)))))))))))))
 ·refine Sr (Pe Y (Ct (Xr (Ri Y Y ?_))));show((-1):Int)=_;unfold CV ED at*;repeat (split at* <;>try omega)
 ·have h:=EE d;refine Sk (Sr (P2 Y Y (Dx (Ct (Ri Y Y ?_)))));show((ED (E8 a.Pattern) left):Int)=_;unfold CV ED at*;repeat (split at* <;>try omega)
theorem VR{w:World}{c:List Value}{a:Action}(d:Gd.rd w c a)(h:CV a<=1048576):Cy 184 [(.agg c.toArray)] w (HH w (a:Action)):=by
 obtain⟨g,rfl,e⟩:=CH d;have i:=rM e;have f:=A9 d;unfold CV at h;refine enter 12 Tryz.func184 Y Y Y (Sr (bX Y λg5=>?_));refine aL pD Y λg6=>?_
 refine Dx (Dh ([bx g6 [(iv 0),(.string ⟨#[]⟩),(.slice none 0 0)],bx g5 [(iv a.Kind),(.string a.Pattern.Rel),g]]) Y (Sr (aL pD Y λg7=>?_)));refine Dx (Dh ([bx g7 [(iv 0),(.string ⟨#[]⟩),(.slice none 0 0)],_,_]) Y (Sr (fl 2 vX CJ Y (q1 Y (Db Q2 Y Y (q:=0) Y) (li Y (AZ (vs:=[(iv a.Kind)]) (cs':=[(iv a.Kind),(.string ⟨#[]⟩),(.slice none 0 0)]) 0 PC Y Y Y Y Y Y (AB Y BR) (by simp) Y ?_))))));refine Dx (Dh ([bx g7 [(iv a.Kind),(.string ⟨#[]⟩),(.slice none 0 0)],_,_]) Y (Sr (q1 Y (Db iN Y Y (q:=1) Y) (q1 Y (H2 (es:=[(.string a.Pattern.Rel),g]) 2 iK Y Y Y Y) (qs Y zR Y (λw' hs=>(NF (rA hs f) ‹_›)) λj=>?_)))));refine Dp (λw' hs=>OO (rO (k:=0) hs Y)) ?_;rintro⟨v9,rfl,b⟩;refine q1 Y (Db GM Y Y (q:=1) Y) (li Y (AZ (vs:=[(.string a.Pattern.Rel),v9]) (cs':=[(iv a.Kind),(.string a.Pattern.Rel),v9]) 1 A1R Y Y Y Y Y Y (AB Y (AB b BR)) (by simp) Y ?_));refine Dx (Dh ([ov [(.string a.Pattern.Rel),v9] (a.Pattern:Pattern),bx g7 [(iv a.Kind),(.string a.Pattern.Rel),v9],_,_]) Y (Sr (q1 Y (C9 1 aX Y Y Y) (li Y (AZ (vs:=[(iv a.Kind),(.string a.Pattern.Rel),v9]) (cs':=[(iv a.Kind),(.string a.Pattern.Rel),v9]) 2 vY Y Y Y Y Y Y (AB Y (AB Y (AB b BR))) (by simp) Y ?_)))));refine Dx (Ct (BB (α:=ByteArray) (β:=(List ByteArray)) (c1:=[(.string a.Pattern.Rel)]) (c2:=[v9]) (x:=a.Pattern.Rel) (y:=(a.Pattern.Args)) Y Y (BZ [] 1 Y (WY (r:=(a:Action)) (eW 2 aX Y Y Y λw' hs=>A7 (k:=0) hs Y ?_)))));show(a:Action)=a;rfl
theorem VS{w:World}{c:List Value}{a:Action}{d:List Value}{b:Action}(e:Gd.rd w c a)(f:Gd.rd w d b):Cy 187 [(.agg c.toArray),(.agg d.toArray)] w (Val w (.bool (decide (a=b)))):=by
 obtain⟨m,rfl,i⟩:=CH e;have o:=rM i;have j:=A9 e;obtain⟨n,rfl,k⟩:=CH f;have p:=rM k;have l:=A9 f;refine enter 16 Tryz.func187 Y Y Y (Sr (bX Y λg9=>?_));refine bX Y λg10=>?_
 refine Pe Y (Dh ([bx g10 [(iv b.Kind),(.string b.Pattern.Rel),n],bx g9 [(iv a.Kind),(.string a.Pattern.Rel),m]]) Y (Cq (Sr (fl 1 Q2 CJ Y (fl 0 Q2 CJ Y (Pe Y (Cn Y (λg=>?_) (λg=>?_))))))))
 ·refine Sr (Pe Y (Ct (Xr (Rb Y Y ?_))))
  cases a;cases b;simp_all
 ·refine Sk (Cq (Sr (q1 Y (Db GM Y Y (q:=1) Y) (q1 Y (H2 (es:=[(.string a.Pattern.Rel),m]) 1 HA Y Y Y Y) (q1 Y (Db GM Y Y (q:=1) Y) (q1 Y (H2 (es:=[(.string b.Pattern.Rel),n]) 0 HA Y Y Y Y) (qv zS Y (λw' hs=>(NG (rA hs j) (rA hs l))) (Pe Y (AH [15] Y (AG [] Y (CN Y (λh=>?_) (λh=>?_))))))))))))
  ·refine Sr (Pe Y (Ct (Xr (Rb Y Y ?_))))
   cases a;cases b;simp_all
  ·refine Sk (Sr (Pe Y (Ct (Rb Y Y ?_))))
   cases a;cases b;simp_all
theorem Y0{w:World}{f:Value}{a:(List Cond)}{left:Int}(b:Gd.rd w [f] a)(h0:0<=left)(h1:left<=1048576)(r:LR LB a):Cy 123 [f,(iv left)] w (Val w (iv (ED (DD BW a) left))):=by
 have s:=rM b;refine enter 27 Tryz.func123 Y Y Y (Sr (Pe Y (Sr (P2 Y Y (dl lR Y (AE b) (q1 Y (B3 Y Y Y Y (by omega)) (Pe Y (Cq (Sr (P2 Y Y (Dx (Cd Y (λh=>?_) (λh=>?_)))))))))))))
 ·refine Sr (Pe Y (Ct (Xr (Ri Y Y ?_))));show((-1):Int)=_;refine(F8 ?_).symm;unfold DD;omega
 ·refine Sk (Cq (Sr (Pe Y (Cb (Cl (λm_ ac w'=>∃(k:Nat),∃(lf:Int),(k<=a.length)/\(0<=lf/\lf=left-a.length-AI BW (a.take k))/\m_=a.length-k/\Fits ac 27 [(0,f),(1,(iv lf)),(5,(nv k))]/\St w ([]) w') ?_ ?_)))))
  ·refine λac w' hf hs=>⟨_,0,(left-((a.length:Nat):Int)),?_,?_,Y,hf.wk Y,hs⟩
   ·omega
   ·simp[AI];omega
  ·rintro m_ ac w' ⟨k,lf,hk,hl,rfl,hf,hs⟩;refine D.use ?_ hf hs;clear hf hs ac w';have ht:=AV a BW k;refine Cq (Sr (P2 Y Y (dl lR Y (AE b) (Pe Y (Cd Y (λi=>?_) (λi=>?_))))))
   ·refine Sk (Cq (Cb (Sr (P2 Y Y ?_))));obtain⟨r0,d⟩:=sI a k;have hro:=r _ (List.mem_of_getElem? d);have t:=AV a BW (k+1);have hst:=G2 (c:=BW) d;obtain⟨u,m,g⟩:=AC (n:=5) rfl b d;obtain⟨x,rfl,o⟩:=A8 g;have v:=rM o;have q:=AK g;refine q1 Y (AJ (l:=a) (j:=k) lR Y Y Y (λw' hs=>(rA hs b)) Y (lS d)) (q1 Y (EX zT Y Y m) (p1 Y (qv A3F Y (λw' hs=>(bM (rA hs g) (by omega) (by omega) hro)) (Pe Y (Sr (P2 Y Y (Dx (Cd Y (λe=>?_) (λe=>?_)))))))))
    ·refine Sr (Pe Y (Ct (Xq (Xr (Xr (Xq (Xr (Ri Y Y ?_))))))));show((-1):Int)=_;refine(F8 ?_).symm;unfold DD;unfold ED at*;split at* <;>omega
    ·have p:=EE e;refine Ck (Xb (Xt (Cr (p1 Y (ad (k+1) Y (Pe Y (λac w' hf hs=>⟨_,?_,k+1,(ED (BW r0) lf),?_,?_,Y,hf.wk Y,hs⟩)))))))
     ·omega
     ·omega
     ·rw[hst];unfold ED at*;split at* <;>omega
   ·refine Cx (Xx (Xx (Xe (Xt (Sr (P2 Y Y (Dx (Ct (Ri Y Y ?_)))))))));show(lf:Int)=_;rw[KV];all_goals (unfold DD;rw[List.take_of_length_le (by omega)] at hl;omega)
theorem Y1{w:World}{e:Value}{a:(List Cond)}(b:Gd.rd w [e] a)(t:DD BW a<=1048576):Cy 129 [e] w (HH w (a:List Cond)):=by
 have u:=rM b;unfold DD at t;refine enter 23 Tryz.func129 Y Y Y (Sr (Pe Y (Sr (p1 Y (dl lR Y (AE b) (li Y (WV (α:=Cond) (z0:=G0) D6 MN Y Y Y Y Y Y vS (by omega) (by omega) λv2=>?_)))))));refine Pe Y (Dh ([ov [v2] (List.replicate a.length G0:(List Cond))]) Y (Cq (Sr (Pe Y (Cb (Cl (λm_ ac w'=>∃(k:Nat),∃(v:Value),(k<=a.length)/\m_=a.length-k/\Fits ac 23 [(0,e),(3,v),(4,(nv k))]/\St w ([ov [v] (cp a G0 k:(List Cond))]) w') ?_ ?_))))))
 ·refine A3 0 Y (show(List.replicate a.length G0:(List Cond))=cp a G0 0 from by rw[KW]) (λac w' hf hs=>⟨_,0,v2,?_,Y,hf.wk Y,hs⟩)
  ·omega
 ·rintro m_ ac w' ⟨k,v,hk,rfl,hf,hs⟩;refine D.use ?_ hf hs;clear hf hs ac w';have hcl:=M5 a G0 k hk;refine Cq (Sr (P2 Y Y (dl lR Y (AE b) (Pe Y (Dh ([_]) Y (Cd Y (λi=>?_) (λi=>?_)))))))
  ·refine Sk (Cq (Cb (Cr (P3 Y Y Y (p1 Y ?_)))));obtain⟨o,f⟩:=sI a k;have hle:=C8 (c:=BW) (N6 f);obtain⟨x,m,g⟩:=AC (n:=5) rfl b f;obtain⟨u9,rfl,h⟩:=A8 g;have p:=rM h;have q:=AK g;refine q1 Y (AJ (l:=a) (j:=k) lR Y Y Y (λw' hs=>(rA hs b)) Y (lS f)) (q1 Y (EX zT Y Y m) (qs Y A3G Y (λw' hs=>(bO (rA hs g) (by omega))) λr=>?_));refine Dp (λw' hs=>TM (rO (k:=0) hs Y)) ?_;rintro⟨y,rfl,s⟩;obtain⟨z,d⟩:=sI (cp a G0 k) k;refine q1 Y (AJ (l:=(cp a G0 k)) (j:=k) D6 Y Y Y (λw' hs=>(rO (k:=1) hs Y)) Y (lS d)) (AG [1,0] Y (li Y (soG (α:=Cond) Y M3 Y Y Y Y Y (lS d) ?_)));refine De (Xb (Xt (Dh ([ov [v] ((cp a G0 k).set k o:(List Cond))]) Y (Cr (p1 Y (ad (k+1) Y (Pe Y (A3 0 Y (show((cp a G0 k).set k o:(List Cond))=cp a G0 (k+1) from by rw[M6 ‹_›]) (λac w' hf hs=>⟨_,?_,k+1,v,?_,Y,hf.wk Y,hs⟩)))))))))
   ·omega
   ·omega
  ·refine Cx (Xx (Xx (Xe (Xt (Sr (P2 Y Y (Dx (Ct (FV Y Y λw' hs=>A7 (k:=0) hs Y ?_)))))))));show cp a G0 k=a;exact KX (by omega)
theorem Y2{w:World}{m:Value}{a:(List Cond)}{o:Value}{b:(List Cond)}(c:Gd.rd w [m] a)(f:Gd.rd w [o] b):Cy 133 [m,o] w (Val w (.bool (decide (a=b)))):=by
 have a3:=rM c;have a4:=rM f;refine enter 27 Tryz.func133 Y Y Y (Sr (Pe Y (Cq (Sr (p1 Y (dl D6 Y (AE c) (p1 Y (dl D6 Y (AE f) (Pe Y (Cn Y (λv=>?_) (λv=>?_)))))))))))
 ·refine Sr (Pe Y (Ct (Xr (Rb Y Y ?_))));simp;intro e;subst e;simp_all
 ·refine Sk (Cq (Sr (Pe Y (Cb (Cl (λm_ ac w'=>∃(k:Nat),(k<=a.length)/\(∀i,i<k->a[i]?=b[i]?)/\m_=a.length-k/\Fits ac 27 [(0,m),(1,o),(5,(nv k))]/\St w ([]) w') ?_ ?_)))))
  ·refine λac w' hf hs=>⟨_,0,?_,?_,Y,hf.wk Y,hs⟩
   ·omega
   ·intro i hi;omega
  ·rintro m_ ac w' ⟨k,hk,hi,rfl,hf,hs⟩;refine D.use ?_ hf hs;clear hf hs ac w';refine Cq (Sr (P2 Y Y (dl D6 Y (AE c) (Pe Y (Cd Y (λx=>?_) (λx=>?_))))))
   ·refine Sk (Cq (Cb (Cq (A0 mixed [8,9] (by kernel_rfl) (tK 8 [0,1] Y ?_)))));obtain⟨x5,q⟩:=sI a k;obtain⟨a5,at8,p⟩:=AC (n:=5) rfl c q;obtain⟨a6,rfl,r⟩:=A8 p;have y:=rM r;have z:=AK p;refine Tk 2 Y Y (AJ (l:=a) (j:=k) D6 Y Y Y (λw' hs=>(rA hs c)) Y (lS q)) (Tk 3 Y Y (EX D4 Y Y at8) (tK 4 [4,5] Y ?_));obtain⟨a7,g⟩:=sI b k;obtain⟨a0,s,d⟩:=AC (n:=5) rfl f g;obtain⟨a8,rfl,t⟩:=A8 d;have a1:=rM t;have a2:=AK d;refine Tk 6 Y Y (AJ (l:=b) (j:=k) D6 Y Y Y (λw' hs=>(rA hs f)) Y (lS g)) (Tk 7 Y Y (EX D4 Y Y s) (ty 8 Y Y (cv A3H Y Y Y Y (λw' hs=>(bP (rA hs p) (rA hs d))) ?_)));refine tZ Y (tW 9 Y Y Y (tE (Xt (CN Y (λu=>?_) (λu=>?_)))))
    ·refine Sr (Pe Y (Ct (Xq (Xr (Xr (Xq (Xr (Rb Y Y ?_))))))));simp;intro e;subst e;simp_all
    ·refine Ck (Xb (Xt (Cr (p1 Y (ad (k+1) Y (Pe Y (λac w' hf hs=>⟨_,?_,k+1,?_,?_,Y,hf.wk Y,hs⟩)))))))
     ·omega
     ·omega
     ·refine DF hi ‹_› ‹_› ?_;simp_all
   ·refine Cx (Xx (Xx (Xe (Xt (Sr (Pe Y (Ct (Rb Y Y ?_))))))));simp;exact C7 (by omega) (λi h=>hi i (by omega))
theorem TY{w:World}{f:Value}{a:(List Action)}{left:Int}(b:Gd.rd w [f] a)(h0:0<=left)(h1:left<=1048576)(r:LR QB a):Cy 124 [f,(iv left)] w (Val w (iv (ED (DD CV a) left))):=by
 have s:=rM b;refine enter 27 Tryz.func124 Y Y Y (Sr (Pe Y (Sr (P2 Y Y (dl W1 Y (AE b) (q1 Y (B3 Y Y Y Y (by omega)) (Pe Y (Cq (Sr (P2 Y Y (Dx (Cd Y (λh=>?_) (λh=>?_)))))))))))))
 ·refine Sr (Pe Y (Ct (Xr (Ri Y Y ?_))));show((-1):Int)=_;refine(F8 ?_).symm;unfold DD;omega
 ·refine Sk (Cq (Sr (Pe Y (Cb (Cl (λm_ ac w'=>∃(k:Nat),∃(lf:Int),(k<=a.length)/\(0<=lf/\lf=left-a.length-AI CV (a.take k))/\m_=a.length-k/\Fits ac 27 [(0,f),(1,(iv lf)),(5,(nv k))]/\St w ([]) w') ?_ ?_)))))
  ·refine λac w' hf hs=>⟨_,0,(left-((a.length:Nat):Int)),?_,?_,Y,hf.wk Y,hs⟩
   ·omega
   ·simp[AI];omega
  ·rintro m_ ac w' ⟨k,lf,hk,hl,rfl,hf,hs⟩;refine D.use ?_ hf hs;clear hf hs ac w';have ht:=AV a CV k;refine Cq (Sr (P2 Y Y (dl W1 Y (AE b) (Pe Y (Cd Y (λi=>?_) (λi=>?_))))))
   ·refine Sk (Cq (Cb (Sr (P2 Y Y ?_))));obtain⟨r0,d⟩:=sI a k;have hro:=r _ (List.mem_of_getElem? d);have t:=AV a CV (k+1);have hst:=G2 (c:=CV) d;obtain⟨u,m,g⟩:=AC (n:=3) rfl b d;obtain⟨x,rfl,o⟩:=CH g;have v:=rM o;have q:=A9 g;refine q1 Y (AJ (l:=a) (j:=k) W1 Y Y Y (λw' hs=>(rA hs b)) Y (lS d)) (q1 Y (EX zU Y Y m) (p1 Y (qv A3I Y (λw' hs=>(VQ (rA hs g) (by omega) (by omega) hro)) (Pe Y (Sr (P2 Y Y (Dx (Cd Y (λe=>?_) (λe=>?_)))))))))
    ·refine Sr (Pe Y (Ct (Xq (Xr (Xr (Xq (Xr (Ri Y Y ?_))))))));show((-1):Int)=_;refine(F8 ?_).symm;unfold DD;unfold ED at*;split at* <;>omega
    ·have p:=EE e;refine Ck (Xb (Xt (Cr (p1 Y (ad (k+1) Y (Pe Y (λac w' hf hs=>⟨_,?_,k+1,(ED (CV r0) lf),?_,?_,Y,hf.wk Y,hs⟩)))))))
     ·omega
     ·omega
     ·rw[hst];unfold ED at*;split at* <;>omega
   ·refine Cx (Xx (Xx (Xe (Xt (Sr (P2 Y Y (Dx (Ct (Ri Y Y ?_)))))))));show(lf:Int)=_;rw[KV];all_goals (unfold DD;rw[List.take_of_length_le (by omega)] at hl;omega)
theorem TZ{w:World}{e:Value}{a:(List Action)}(b:Gd.rd w [e] a)(t:DD CV a<=1048576):Cy 130 [e] w (HH w (a:List Action)):=by
 have u:=rM b;unfold DD at t;refine enter 23 Tryz.func130 Y Y Y (Sr (Pe Y (Sr (p1 Y (dl W1 Y (AE b) (li Y (WV (α:=Action) (z0:=ET) JJ pD Y Y Y Y Y Y lO (by omega) (by omega) λv2=>?_)))))));refine Pe Y (Dh ([ov [v2] (List.replicate a.length ET:(List Action))]) Y (Cq (Sr (Pe Y (Cb (Cl (λm_ ac w'=>∃(k:Nat),∃(v:Value),(k<=a.length)/\m_=a.length-k/\Fits ac 23 [(0,e),(3,v),(4,(nv k))]/\St w ([ov [v] (cp a ET k:(List Action))]) w') ?_ ?_))))))
 ·refine A3 0 Y (show(List.replicate a.length ET:(List Action))=cp a ET 0 from by rw[KW]) (λac w' hf hs=>⟨_,0,v2,?_,Y,hf.wk Y,hs⟩)
  ·omega
 ·rintro m_ ac w' ⟨k,v,hk,rfl,hf,hs⟩;refine D.use ?_ hf hs;clear hf hs ac w';have hcl:=M5 a ET k hk;refine Cq (Sr (P2 Y Y (dl W1 Y (AE b) (Pe Y (Dh ([_]) Y (Cd Y (λi=>?_) (λi=>?_)))))))
  ·refine Sk (Cq (Cb (Cr (P3 Y Y Y (p1 Y ?_)))));obtain⟨o,f⟩:=sI a k;have hle:=C8 (c:=CV) (N6 f);obtain⟨x,m,g⟩:=AC (n:=3) rfl b f;obtain⟨u9,rfl,h⟩:=CH g;have p:=rM h;have q:=A9 g;refine q1 Y (AJ (l:=a) (j:=k) W1 Y Y Y (λw' hs=>(rA hs b)) Y (lS f)) (q1 Y (EX zU Y Y m) (qs Y A3J Y (λw' hs=>(VR (rA hs g) (by omega))) λr=>?_));refine Dp (λw' hs=>PZ (rO (k:=0) hs Y)) ?_;rintro⟨y,rfl,s⟩;obtain⟨z,d⟩:=sI (cp a ET k) k;refine q1 Y (AJ (l:=(cp a ET k)) (j:=k) JJ Y Y Y (λw' hs=>(rO (k:=1) hs Y)) Y (lS d)) (AG [1,0] Y (li Y (soG (α:=Action) Y vY Y Y Y Y Y (lS d) ?_)));refine De (Xb (Xt (Dh ([ov [v] ((cp a ET k).set k o:(List Action))]) Y (Cr (p1 Y (ad (k+1) Y (Pe Y (A3 0 Y (show((cp a ET k).set k o:(List Action))=cp a ET (k+1) from by rw[M6 ‹_›]) (λac w' hf hs=>⟨_,?_,k+1,v,?_,Y,hf.wk Y,hs⟩)))))))))
   ·omega
   ·omega
  ·refine Cx (Xx (Xx (Xe (Xt (Sr (P2 Y Y (Dx (Ct (FV Y Y λw' hs=>A7 (k:=0) hs Y ?_)))))))));show cp a ET k=a;exact KX (by omega)
theorem T0{w:World}{m:Value}{a:(List Action)}{o:Value}{b:(List Action)}(c:Gd.rd w [m] a)(f:Gd.rd w [o] b):Cy 134 [m,o] w (Val w (.bool (decide (a=b)))):=by
 have a3:=rM c;have a4:=rM f;refine enter 27 Tryz.func134 Y Y Y (Sr (Pe Y (Cq (Sr (p1 Y (dl JJ Y (AE c) (p1 Y (dl JJ Y (AE f) (Pe Y (Cn Y (λv=>?_) (λv=>?_)))))))))))
 ·refine Sr (Pe Y (Ct (Xr (Rb Y Y ?_))));simp;intro e;subst e;simp_all
 ·refine Sk (Cq (Sr (Pe Y (Cb (Cl (λm_ ac w'=>∃(k:Nat),(k<=a.length)/\(∀i,i<k->a[i]?=b[i]?)/\m_=a.length-k/\Fits ac 27 [(0,m),(1,o),(5,(nv k))]/\St w ([]) w') ?_ ?_)))))
  ·refine λac w' hf hs=>⟨_,0,?_,?_,Y,hf.wk Y,hs⟩
   ·omega
   ·intro i hi;omega
  ·rintro m_ ac w' ⟨k,hk,hi,rfl,hf,hs⟩;refine D.use ?_ hf hs;clear hf hs ac w';refine Cq (Sr (P2 Y Y (dl JJ Y (AE c) (Pe Y (Cd Y (λx=>?_) (λx=>?_))))))
   ·refine Sk (Cq (Cb (Cq (A0 mixed [8,9] (by kernel_rfl) (tK 8 [0,1] Y ?_)))));obtain⟨x5,q⟩:=sI a k;obtain⟨a5,at8,p⟩:=AC (n:=3) rfl c q;obtain⟨a6,rfl,r⟩:=CH p;have y:=rM r;have z:=A9 p;refine Tk 2 Y Y (AJ (l:=a) (j:=k) JJ Y Y Y (λw' hs=>(rA hs c)) Y (lS q)) (Tk 3 Y Y (EX aX Y Y at8) (tK 4 [4,5] Y ?_));obtain⟨a7,g⟩:=sI b k;obtain⟨a0,s,d⟩:=AC (n:=3) rfl f g;obtain⟨a8,rfl,t⟩:=CH d;have a1:=rM t;have a2:=A9 d;refine Tk 6 Y Y (AJ (l:=b) (j:=k) JJ Y Y Y (λw' hs=>(rA hs f)) Y (lS g)) (Tk 7 Y Y (EX aX Y Y s) (ty 8 Y Y (cv A3K Y Y Y Y (λw' hs=>(VS (rA hs p) (rA hs d))) ?_)));refine tZ Y (tW 9 Y Y Y (tE (Xt (CN Y (λu=>?_) (λu=>?_)))))
    ·refine Sr (Pe Y (Ct (Xq (Xr (Xr (Xq (Xr (Rb Y Y ?_))))))));simp;intro e;subst e;simp_all
    ·refine Ck (Xb (Xt (Cr (p1 Y (ad (k+1) Y (Pe Y (λac w' hf hs=>⟨_,?_,k+1,?_,?_,Y,hf.wk Y,hs⟩)))))))
     ·omega
     ·omega
     ·refine DF hi ‹_› ‹_› ?_;simp_all
   ·refine Cx (Xx (Xx (Xe (Xt (Sr (Pe Y (Ct (Rb Y Y ?_))))))));simp;exact C7 (by omega) (λi h=>hi i (by omega))
theorem bQ{w:World}{c:List Value}{a:Rule}{left:Int}(g:Gd.rd w c a)(h0:0<=left)(h1:left<=1048576)(h:H9 a):Cy 59 [(.agg c.toArray),(iv left)] w (Val w (iv (ED (BG a) left))):=by
 obtain⟨l,m,rfl,d,e⟩:=BC g;have n:=rM d;have o:=rM e;have p:a.Name.size<=9223372036854775807:=h.1;refine enter 25 Tryz.func59 Y Y Y (Sr (bX Y λg7=>?_));refine Pe Y (Dh ([bx g7 [(.string a.Name),(iv a.Priority),l,m]]) Y (Sr (p1 Y (fl 0 iO BK Y (q1 Y (FZ F5 Y Y) (q1 Y (B3 Y Y Y Y (by omega)) (Pe Y (Cq (Sr (P2 Y Y (Dx (Cd Y (λi=>?_) (λi=>?_)))))))))))))
 ·refine Sr (Pe Y (Ct (Xr (Ri Y Y ?_))));show((-1):Int)=_;unfold BG ED at*;repeat (split at* <;>try omega)
 ·refine Sk (Sr (fl 0 iP A3L Y (p1 Y (qv A3M Y (λw' hs=>(Y0 (rA hs d) (by omega) (by omega) h.2.2.1)) (Pe Y (Cq (Sr (P2 Y Y (Dx (Cd Y (λf=>?_) (λf=>?_)))))))))))
  ·refine Sr (Pe Y (Ct (Xr (Ri Y Y ?_))));show((-1):Int)=_;unfold BG ED at*;repeat (split at* <;>try omega)
  ·have k:=EE f;refine Sk (AH [1,2] Y (Sr (fl 0 iQ zV Y (p1 Y (qv A3N Y (λw' hs=>(TY (rA hs e) (by omega) (by omega) h.2.2.2)) (Pe Y (Cq (Sr (P2 Y Y (Dx (Cd Y (λb=>?_) (λb=>?_))))))))))))
   ·refine Sr (Pe Y (Ct (Xr (Ri Y Y ?_))));show((-1):Int)=_;unfold BG ED at*;repeat (split at* <;>try omega)
   ·have j:=EE b;refine Sk (Sr (P2 Y Y (Dx (Ct (Ri Y Y ?_)))));show((ED (DD CV a.Then) (ED (DD BW a.If) (left-((a.Name.size:Nat):Int)))):Int)=_;unfold BG ED at*;repeat (split at* <;>try omega)
theorem bT{w:World}{e:List Value}{a:Rule}(h:Gd.rd w e a)(i:BG a<=1048576):Cy 64 [(.agg e.toArray)] w (HH w (a:Rule)):=by
 obtain⟨j,l,rfl,f,g⟩:=BC h;have m:=rM f;have n:=rM g;unfold BG at i;refine enter 19 Tryz.func64 Y Y Y (Sr (bX Y λg7=>?_));refine aL lT Y λg8=>?_
 refine Dx (Dh ([bx g8 [(.string ⟨#[]⟩),(iv 0),(.slice none 0 0),(.slice none 0 0)],bx g7 [(.string a.Name),(iv a.Priority),j,l]]) Y (Sr (aL lT Y λg9=>?_)));refine Dx (Dh ([bx g9 [(.string ⟨#[]⟩),(iv 0),(.slice none 0 0),(.slice none 0 0)],_,_]) Y (Sr (fl 2 iO BK Y (q1 Y (Db JK Y Y (q:=0) Y) (li Y (AZ (vs:=[(.string a.Name)]) (cs':=[(.string a.Name),(iv 0),(.slice none 0 0),(.slice none 0 0)]) 0 VI Y Y Y Y Y Y (AB Y BR) (by simp) Y ?_))))));refine Dx (Dh ([bx g9 [(.string a.Name),(iv 0),(.slice none 0 0),(.slice none 0 0)],_,_]) Y (Sr (fl 2 vZ CJ Y (q1 Y (Db L4 Y Y (q:=1) Y) (li Y (AZ (vs:=[(iv a.Priority)]) (cs':=[(.string a.Name),(iv a.Priority),(.slice none 0 0),(.slice none 0 0)]) 0 PC Y Y Y Y Y Y (AB Y BR) (by simp) Y ?_))))));refine Dx (Dh ([bx g9 [(.string a.Name),(iv a.Priority),(.slice none 0 0),(.slice none 0 0)],_,_]) Y (Sr (fl 2 iP A3L Y (ql A3O Y (λw' hs=>(Y1 (rA hs f) (by omega))) λb=>?_))));refine q1 Y (Db CO Y Y (q:=2) Y) (Dp (λw' hs=>CZ (k:=0) hs Y) ?_);intro c;refine li Y (AZ (vs:=[b]) (cs':=[(.string a.Name),(iv a.Priority),b,(.slice none 0 0)]) 1 A6L Y Y Y Y Y (AO c) (AB c BR) (by simp) Y ?_);refine Dx (Dh ([ov [b] (a.If:(List Cond)),bx g9 [(.string a.Name),(iv a.Priority),b,(.slice none 0 0)],_,_]) Y (Sr (fl 3 iQ zV Y (ql A3P Y (λw' hs=>(TZ (rA hs g) (by omega))) λv12=>?_))));refine q1 Y (Db HB Y Y (q:=3) Y) (Dp (λw' hs=>CZ (k:=0) hs Y) ?_);intro d;refine li Y (AZ (vs:=[v12]) (cs':=[(.string a.Name),(iv a.Priority),b,v12]) 2 A6M Y Y Y Y Y (AO d) (AB d BR) (by simp) Y ?_);refine Dx (AH [2,3] Y (AG [0,1,2,3] Y (Dh ([ov [v12] (a.Then:(List Action)),_,bx g9 [(.string a.Name),(iv a.Priority),b,v12],_]) Y (Sr (q1 Y (C9 2 I7 Y Y Y) (li Y (AZ (vs:=[(.string a.Name),(iv a.Priority),b,v12]) (cs':=[(.string a.Name),(iv a.Priority),b,v12]) 3 pE Y Y Y Y Y Y (AB Y (AB Y (AB c (AB d BR)))) (by simp) Y ?_)))))));refine Dx (Ct (AG [1,0,2,3] Y (iB (r:=(a:Rule)) (eW 2 I7 Y Y Y λw' hs=>A7 (k:=0) hs Y ?_))));show(a:Rule)=a;rfl
theorem bU{w:World}{d:List Value}{a:Rule}{e:List Value}{b:Rule}(m:Gd.rd w d a)(n:Gd.rd w e b):Cy 70 [(.agg d.toArray),(.agg e.toArray)] w (Val w (.bool (decide (a=b)))):=by
 obtain⟨q,r,rfl,f,g⟩:=BC m;have s:=rM f;have t:=rM g;obtain⟨u,v,rfl,h,c⟩:=BC n;have o:=rM h;have p:=rM c;refine enter 27 Tryz.func70 Y Y Y (Sr (bX Y λg13=>?_));refine bX Y λg14=>?_
 refine Pe Y (Dh ([bx g14 [(.string b.Name),(iv b.Priority),u,v],bx g13 [(.string a.Name),(iv a.Priority),q,r]]) Y (Cq (Sr (fl 1 JK BK Y (fl 0 JK BK Y (q1 Y (E5 Y Y Y) (Dx (R8 Y (λi=>?_) (λi=>?_)))))))))
 ·refine Sr (Pe Y (Ct (Xr (Rb Y Y ?_))))
  cases a;cases b;simp_all
 ·refine Sk (Cq (Sr (fl 1 L4 CJ Y (fl 0 L4 CJ Y (Pe Y (Cn Y (λj=>?_) (λj=>?_)))))))
  ·refine Sr (Pe Y (Ct (Xr (Rb Y Y ?_))))
   cases a;cases b;simp_all
  ·refine Sk (Cq (Sr (fl 1 CO GN Y (fl 0 CO GN Y (qv A3Q Y (λw' hs=>(Y2 (rA hs f) (rA hs h))) (Pe Y (AH [2,3,20] Y (CN Y (λk=>?_) (λk=>?_)))))))))
   ·refine Sr (Pe Y (Ct (Xr (Rb Y Y ?_))))
    cases a;cases b;simp_all
   ·refine Sk (Cq (Sr (fl 1 HB PD Y (fl 0 HB PD Y (qv A3R Y (λw' hs=>(T0 (rA hs g) (rA hs c))) (Pe Y (CN Y (λl=>?_) (λl=>?_))))))))
    ·refine Sr (Pe Y (Ct (Xr (Rb Y Y ?_))))
     cases a;cases b;simp_all
    ·refine Sk (Sr (Pe Y (Ct (Rb Y Y ?_))))
     cases a;cases b;simp_all
theorem Y3{w:World}{b:List Value}{a:Stamp}{left:Int}(c:Gd.rd w b a)(h0:0<=left)(h1:left<=1048576)(i:MA a):Cy 84 [(.agg b.toArray),(iv left)] w (Val w (iv (ED (CM a) left))):=by
 obtain⟨g,rfl,e⟩:=B9 c;have j:=rM e;have f:=BE c;refine enter 12 Tryz.func84 Y Y Y (Sr (bX Y λg5=>?_));refine Pe Y (Dh ([bx g5 [(.string a.Fact.Rel),g,(iv a.Time)]]) Y (Sr (q1 Y (Db iR Y Y (q:=0) Y) (q1 Y (H2 (es:=[(.string a.Fact.Rel),g]) 0 iG Y Y Y Y) (p1 Y (qv zM Y (λw' hs=>(SF (rA hs f) ‹_› ‹_› i.1)) (Pe Y (Cq (Sr (P2 Y Y (Dx (Cd Y (λd=>?_) (λd=>?_)))))))))))))
 ·refine Sr (Pe Y (Ct (Xr (Ri Y Y ?_))));show((-1):Int)=_;unfold CM ED at*;repeat (split at* <;>try omega)
 ·have h:=EE d;refine Sk (Sr (P2 Y Y (Dx (Ct (Ri Y Y ?_)))));show((ED (F9 a.Fact) left):Int)=_;unfold CM ED at*;repeat (split at* <;>try omega)
theorem Y4{w:World}{c:List Value}{a:Stamp}(d:Gd.rd w c a)(h:CM a<=1048576):Cy 98 [(.agg c.toArray)] w (HH w (a:Stamp)):=by
 obtain⟨g,rfl,e⟩:=B9 d;have i:=rM e;have f:=BE d;unfold CM at h;refine enter 12 Tryz.func98 Y Y Y (Sr (bX Y λg5=>?_));refine aL SC Y λg6=>?_
 refine Dx (Dh ([bx g6 [(.string ⟨#[]⟩),(.slice none 0 0),(iv 0)],bx g5 [(.string a.Fact.Rel),g,(iv a.Time)]]) Y (Sr (aL SC Y λg7=>?_)));refine Dx (Dh ([bx g7 [(.string ⟨#[]⟩),(.slice none 0 0),(iv 0)],_,_]) Y (Sr (q1 Y (Db iR Y Y (q:=0) Y) (q1 Y (H2 (es:=[(.string a.Fact.Rel),g]) 2 iG Y Y Y Y) (qs Y zO Y (λw' hs=>(SG (rA hs f) ‹_›)) λj=>?_)))));refine Dp (λw' hs=>EZ (rO (k:=0) hs Y)) ?_;rintro⟨v9,rfl,b⟩;refine q1 Y (Db IU Y Y (q:=0) Y) (li Y (AZ (vs:=[(.string a.Fact.Rel),v9]) (cs':=[(.string a.Fact.Rel),v9,(iv 0)]) 1 TP Y Y Y Y Y Y (AB Y (AB b BR)) (by simp) Y ?_));refine Dx (Dh ([ov [(.string a.Fact.Rel),v9] (a.Fact:Fact),bx g7 [(.string a.Fact.Rel),v9,(iv 0)],_,_]) Y (Sr (fl 3 wA CJ Y (q1 Y (Db F6 Y Y (q:=2) Y) (li Y (AZ (vs:=[(iv a.Time)]) (cs':=[(.string a.Fact.Rel),v9,(iv a.Time)]) 1 PC Y Y Y Y Y Y (AB Y BR) (by simp) Y ?_))))));refine Dx (Dh ([_,bx g7 [(.string a.Fact.Rel),v9,(iv a.Time)],_,_]) Y (Sr (q1 Y (C9 1 P6 Y Y Y) (li Y (AZ (vs:=[(.string a.Fact.Rel),v9,(iv a.Time)]) (cs':=[(.string a.Fact.Rel),v9,(iv a.Time)]) 2 TQ Y Y Y Y Y Y (AB Y (AB b (AB Y BR))) (by simp) Y ?_)))));refine Dx (Ct (BB (α:=ByteArray) (β:=(List ByteArray)) (c1:=[(.string a.Fact.Rel)]) (c2:=[v9]) (x:=a.Fact.Rel) (y:=(a.Fact.Args)) Y Y (BZ [] 1 Y (aT (r:=(a:Stamp)) (eW 2 P6 Y Y Y λw' hs=>A7 (k:=0) hs Y ?_)))));show(a:Stamp)=a;rfl
theorem Y5{w:World}{c:List Value}{a:Stamp}{d:List Value}{b:Stamp}(e:Gd.rd w c a)(f:Gd.rd w d b):Cy 118 [(.agg c.toArray),(.agg d.toArray)] w (Val w (.bool (decide (a=b)))):=by
 obtain⟨m,rfl,i⟩:=B9 e;have o:=rM i;have j:=BE e;obtain⟨n,rfl,k⟩:=B9 f;have p:=rM k;have l:=BE f;refine enter 16 Tryz.func118 Y Y Y (Sr (bX Y λg9=>?_));refine bX Y λg10=>?_
 refine Pe Y (Dh ([bx g10 [(.string b.Fact.Rel),n,(iv b.Time)],bx g9 [(.string a.Fact.Rel),m,(iv a.Time)]]) Y (Cq (Sr (q1 Y (Db IU Y Y (q:=0) Y) (q1 Y (H2 (es:=[(.string a.Fact.Rel),m]) 1 C3 Y Y Y Y) (q1 Y (Db IU Y Y (q:=0) Y) (q1 Y (H2 (es:=[(.string b.Fact.Rel),n]) 0 C3 Y Y Y Y) (qv pC Y (λw' hs=>(ND (rA hs j) (rA hs l))) (Pe Y (CN Y (λg=>?_) (λg=>?_)))))))))))
 ·refine Sr (Pe Y (Ct (Xr (Rb Y Y ?_))))
  cases a;cases b;simp_all
 ·refine Sk (Cq (Sr (fl 1 F6 CJ Y (fl 0 F6 CJ Y (Pe Y (AH [15] Y (AG [] Y (Cn Y (λh=>?_) (λh=>?_)))))))))
  ·refine Sr (Pe Y (Ct (Xr (Rb Y Y ?_))))
   cases a;cases b;simp_all
  ·refine Sk (Sr (Pe Y (Ct (Rb Y Y ?_))))
   cases a;cases b;simp_all
theorem VT{w:World}{b:List Value}{a:Firing}{left:Int}(e:Gd.rd w b a)(h0:0<=left)(h1:left<=1048576)(h:TX a):Cy 85 [(.agg b.toArray),(iv left)] w (Val w (iv (ED (DG a) left))):=by
 obtain⟨i,rfl,c⟩:=BQ e;have j:=rM c;have k:a.Rule.size<=9223372036854775807:=h.1;refine enter 19 Tryz.func85 Y Y Y (Sr (bX Y λg4=>?_));refine Pe Y (Dh ([bx g4 [(.string a.Rule),i]]) Y (Sr (p1 Y (fl 0 iS BK Y (q1 Y (FZ F5 Y Y) (q1 Y (B3 Y Y Y Y (by omega)) (Pe Y (Cq (Sr (P2 Y Y (Dx (Cd Y (λf=>?_) (λf=>?_)))))))))))))
 ·refine Sr (Pe Y (Ct (Xr (Ri Y Y ?_))));show((-1):Int)=_;unfold DG ED at*;repeat (split at* <;>try omega)
 ·refine Sk (Sr (fl 0 iT H7 Y (p1 Y (qv A3S Y (λw' hs=>(bK (rA hs c) (by omega) (by omega))) (Pe Y (Cq (Sr (P2 Y Y (Dx (AH [1,17] Y (AG [] Y (Cd Y (λd=>?_) (λd=>?_)))))))))))))
  ·refine Sr (Pe Y (Ct (Xr (Ri Y Y ?_))));show((-1):Int)=_;unfold DG ED at*;repeat (split at* <;>try omega)
  ·have g:=EE d;refine Sk (Sr (P2 Y Y (Dx (Ct (Ri Y Y ?_)))));show((ED a.Times.length (left-((a.Rule.size:Nat):Int))):Int)=_;unfold DG ED at*;repeat (split at* <;>try omega)
theorem VU{w:World}{d:List Value}{a:Firing}(f:Gd.rd w d a)(g:DG a<=1048576):Cy 99 [(.agg d.toArray)] w (HH w (a:Firing)):=by
 obtain⟨h,rfl,e⟩:=BQ f;have i:=rM e;unfold DG at g;refine enter 12 Tryz.func99 Y Y Y (Sr (bX Y λg4=>?_));refine aL pG Y λg5=>?_
 refine Dx (Dh ([bx g5 [(.string ⟨#[]⟩),(.slice none 0 0)],bx g4 [(.string a.Rule),h]]) Y (Sr (aL pG Y λg6=>?_)));refine Dx (Dh ([bx g6 [(.string ⟨#[]⟩),(.slice none 0 0)],_,_]) Y (Sr (fl 2 iS BK Y (q1 Y (Db IK Y Y (q:=0) Y) (li Y (AZ (vs:=[(.string a.Rule)]) (cs':=[(.string a.Rule),(.slice none 0 0)]) 0 VI Y Y Y Y Y Y (AB Y BR) (by simp) Y ?_))))));refine Dx (Dh ([bx g6 [(.string a.Rule),(.slice none 0 0)],_,_]) Y (Sr (fl 2 iT H7 Y (ql A3T Y (λw' hs=>(bL (rA hs e) (by omega))) λc=>?_))));refine q1 Y (Db HC Y Y (q:=1) Y) (Dp (λw' hs=>CZ (k:=0) hs Y) ?_);intro b;refine li Y (AZ (vs:=[c]) (cs':=[(.string a.Rule),c]) 1 A3U Y Y Y Y Y (AO b) (AB b BR) (by simp) Y ?_);refine Dx (Dh ([ov [c] (a.Times:(List Int)),bx g6 [(.string a.Rule),c],_,_]) Y (Sr (q1 Y (C9 1 VM Y Y Y) (li Y (AZ (vs:=[(.string a.Rule),c]) (cs':=[(.string a.Rule),c]) 2 wC Y Y Y Y Y Y (AB Y (AB b BR)) (by simp) Y ?_)))));refine Dx (Ct (WZ (r:=(a:Firing)) (eW 2 VM Y Y Y λw' hs=>A7 (k:=0) hs Y ?_)));show(a:Firing)=a;rfl
theorem VV{w:World}{c:List Value}{a:Firing}{d:List Value}{b:Firing}(h:Gd.rd w c a)(i:Gd.rd w d b):Cy 119 [(.agg c.toArray),(.agg d.toArray)] w (Val w (.bool (decide (a=b)))):=by
 obtain⟨k,rfl,e⟩:=BQ h;have l:=rM e;obtain⟨m,rfl,f⟩:=BQ i;have n:=rM f;refine enter 16 Tryz.func119 Y Y Y (Sr (bX Y λg7=>?_));refine bX Y λg8=>?_
 refine Pe Y (Dh ([bx g8 [(.string b.Rule),m],bx g7 [(.string a.Rule),k]]) Y (Cq (Sr (fl 1 IK BK Y (fl 0 IK BK Y (q1 Y (E5 Y Y Y) (Dx (R8 Y (λj=>?_) (λj=>?_)))))))))
 ·refine Sr (Pe Y (Ct (Xr (Rb Y Y ?_))))
  cases a;cases b;simp_all
 ·refine Sk (Cq (Sr (fl 1 HC H7 Y (fl 0 HC H7 Y (qv zW Y (λw' hs=>(SE (rA hs e) (rA hs f))) (Pe Y (AH [15] Y (AG [] Y (CN Y (λg=>?_) (λg=>?_))))))))))
  ·refine Sr (Pe Y (Ct (Xr (Rb Y Y ?_))))
   cases a;cases b;simp_all
  ·refine Sk (Sr (Pe Y (Ct (Rb Y Y ?_))))
   cases a;cases b;simp_all
theorem Y6{w:World}{f:Value}{a:(List Rule)}{left:Int}(b:Gd.rd w [f] a)(h0:0<=left)(h1:left<=1048576)(t:LR H9 a):Cy 17 [f,(iv left)] w (Val w (iv (ED (DD BG a) left))):=by
 have u:=rM b;refine enter 27 Tryz.func17 Y Y Y (Sr (Pe Y (Sr (P2 Y Y (dl lU Y (AE b) (q1 Y (B3 Y Y Y Y (by omega)) (Pe Y (Cq (Sr (P2 Y Y (Dx (Cd Y (λi=>?_) (λi=>?_)))))))))))))
 ·refine Sr (Pe Y (Ct (Xr (Ri Y Y ?_))));show((-1):Int)=_;refine(F8 ?_).symm;unfold DD;omega
 ·refine Sk (Cq (Sr (Pe Y (Cb (Cl (λm_ ac w'=>∃(k:Nat),∃(lf:Int),(k<=a.length)/\(0<=lf/\lf=left-a.length-AI BG (a.take k))/\m_=a.length-k/\Fits ac 27 [(0,f),(1,(iv lf)),(5,(nv k))]/\St w ([]) w') ?_ ?_)))))
  ·refine λac w' hf hs=>⟨_,0,(left-((a.length:Nat):Int)),?_,?_,Y,hf.wk Y,hs⟩
   ·omega
   ·simp[AI];omega
  ·rintro m_ ac w' ⟨k,lf,hk,hl,rfl,hf,hs⟩;refine D.use ?_ hf hs;clear hf hs ac w';have ht:=AV a BG k;refine Cq (Sr (P2 Y Y (dl lU Y (AE b) (Pe Y (Cd Y (λm=>?_) (λm=>?_))))))
   ·refine Sk (Cq (Cb (Sr (P2 Y Y ?_))));obtain⟨r0,d⟩:=sI a k;have hro:=t _ (List.mem_of_getElem? d);have v:=AV a BG (k+1);have hst:=G2 (c:=BG) d;obtain⟨x,o,g⟩:=AC (n:=4) rfl b d;obtain⟨y,z,rfl,p,h⟩:=BC g;have r:=rM p;have s:=rM h;refine q1 Y (AJ (l:=a) (j:=k) lU Y Y Y (λw' hs=>(rA hs b)) Y (lS d)) (q1 Y (EX zX Y Y o) (p1 Y (qv A6N Y (λw' hs=>(bQ (rA hs g) (by omega) (by omega) hro)) (Pe Y (Sr (P2 Y Y (Dx (Cd Y (λe=>?_) (λe=>?_)))))))))
    ·refine Sr (Pe Y (Ct (Xq (Xr (Xr (Xq (Xr (Ri Y Y ?_))))))));show((-1):Int)=_;refine(F8 ?_).symm;unfold DD;unfold ED at*;split at* <;>omega
    ·have q:=EE e;refine Ck (Xb (Xt (Cr (p1 Y (ad (k+1) Y (Pe Y (λac w' hf hs=>⟨_,?_,k+1,(ED (BG r0) lf),?_,?_,Y,hf.wk Y,hs⟩)))))))
     ·omega
     ·omega
     ·rw[hst];unfold ED at*;split at* <;>omega
   ·refine Cx (Xx (Xx (Xe (Xt (Sr (P2 Y Y (Dx (Ct (Ri Y Y ?_)))))))));show(lf:Int)=_;rw[KV];all_goals (unfold DD;rw[List.take_of_length_le (by omega)] at hl;omega)
theorem Y7{w:World}{e:Value}{a:(List Rule)}(b:Gd.rd w [e] a)(x:DD BG a<=1048576):Cy 20 [e] w (HH w (a:List Rule)):=by
 have y:=rM b;unfold DD at x;refine enter 23 Tryz.func20 Y Y Y (Sr (Pe Y (Sr (p1 Y (dl lU Y (AE b) (li Y (WV (α:=Rule) (z0:=G1) HD lT Y Y Y Y Y Y vT (by omega) (by omega) λv2=>?_)))))));refine Pe Y (Dh ([ov [v2] (List.replicate a.length G1:(List Rule))]) Y (Cq (Sr (Pe Y (Cb (Cl (λm_ ac w'=>∃(k:Nat),∃(v:Value),(k<=a.length)/\m_=a.length-k/\Fits ac 23 [(0,e),(3,v),(4,(nv k))]/\St w ([ov [v] (cp a G1 k:(List Rule))]) w') ?_ ?_))))))
 ·refine A3 0 Y (show(List.replicate a.length G1:(List Rule))=cp a G1 0 from by rw[KW]) (λac w' hf hs=>⟨_,0,v2,?_,Y,hf.wk Y,hs⟩)
  ·omega
 ·rintro m_ ac w' ⟨k,v,hk,rfl,hf,hs⟩;refine D.use ?_ hf hs;clear hf hs ac w';have hcl:=M5 a G1 k hk;refine Cq (Sr (P2 Y Y (dl lU Y (AE b) (Pe Y (Dh ([_]) Y (Cd Y (λm=>?_) (λm=>?_)))))))
  ·refine Sk (Cq (Cb (Cr (P3 Y Y Y (p1 Y ?_)))));obtain⟨p,f⟩:=sI a k;have hle:=C8 (c:=BG) (N6 f);obtain⟨z,o,g⟩:=AC (n:=4) rfl b f;obtain⟨u9,a0,rfl,h,i⟩:=BC g;have q:=rM h;have r:=rM i;refine q1 Y (AJ (l:=a) (j:=k) lU Y Y Y (λw' hs=>(rA hs b)) Y (lS f)) (q1 Y (EX zX Y Y o) (qs Y A6O Y (λw' hs=>(bT (rA hs g) (by omega))) λs=>?_));refine Dp (λw' hs=>TN (rO (k:=0) hs Y)) ?_;rintro⟨a1,v17,rfl,t,u⟩;obtain⟨a2,d⟩:=sI (cp a G1 k) k;refine q1 Y (AJ (l:=(cp a G1 k)) (j:=k) HD Y Y Y (λw' hs=>(rO (k:=1) hs Y)) Y (lS d)) (AG [1,0] Y (li Y (soG (α:=Rule) Y pE Y Y Y Y Y (lS d) ?_)));refine De (Xb (Xt (Dh ([ov [v] ((cp a G1 k).set k p:(List Rule))]) Y (Cr (p1 Y (ad (k+1) Y (Pe Y (A3 0 Y (show((cp a G1 k).set k p:(List Rule))=cp a G1 (k+1) from by rw[M6 ‹_›]) (λac w' hf hs=>⟨_,?_,k+1,v,?_,Y,hf.wk Y,hs⟩)))))))))
   ·omega
   ·omega
  ·refine Cx (Xx (Xx (Xe (Xt (Sr (P2 Y Y (Dx (Ct (FV Y Y λw' hs=>A7 (k:=0) hs Y ?_)))))))));show cp a G1 k=a;exact KX (by omega)
theorem Y8{w:World}{m:Value}{a:(List Rule)}{o:Value}{b:(List Rule)}(c:Gd.rd w [m] a)(d:Gd.rd w [o] b):Cy 23 [m,o] w (Val w (.bool (decide (a=b)))):=by
 have a5:=rM c;have a6:=rM d;refine enter 27 Tryz.func23 Y Y Y (Sr (Pe Y (Cq (Sr (p1 Y (dl HD Y (AE c) (p1 Y (dl HD Y (AE d) (Pe Y (Cn Y (λy=>?_) (λy=>?_)))))))))))
 ·refine Sr (Pe Y (Ct (Xr (Rb Y Y ?_))));simp;intro e;subst e;simp_all
 ·refine Sk (Cq (Sr (Pe Y (Cb (Cl (λm_ ac w'=>∃(k:Nat),(k<=a.length)/\(∀i,i<k->a[i]?=b[i]?)/\m_=a.length-k/\Fits ac 27 [(0,m),(1,o),(5,(nv k))]/\St w ([]) w') ?_ ?_)))))
  ·refine λac w' hf hs=>⟨_,0,?_,?_,Y,hf.wk Y,hs⟩
   ·omega
   ·intro i hi;omega
  ·rintro m_ ac w' ⟨k,hk,hi,rfl,hf,hs⟩;refine D.use ?_ hf hs;clear hf hs ac w';refine Cq (Sr (P2 Y Y (dl HD Y (AE c) (Pe Y (Cd Y (λz=>?_) (λz=>?_))))))
   ·refine Sk (Cq (Cb (Cq (A0 mixed [8,9] (by kernel_rfl) (tK 8 [0,1] Y ?_)))));obtain⟨x5,p⟩:=sI a k;obtain⟨a7,at8,q⟩:=AC (n:=4) rfl c p;obtain⟨a8,a9,rfl,r,s⟩:=BC q;have a0:=rM r;have a1:=rM s;refine Tk 2 Y Y (AJ (l:=a) (j:=k) HD Y Y Y (λw' hs=>(rA hs c)) Y (lS p)) (Tk 3 Y Y (EX I7 Y Y at8) (tK 4 [4,5] Y ?_));obtain⟨aa,f⟩:=sI b k;obtain⟨a2,t,g⟩:=AC (n:=4) rfl d f;obtain⟨ab,ae,rfl,u,v⟩:=BC g;have a3:=rM u;have a4:=rM v;refine Tk 6 Y Y (AJ (l:=b) (j:=k) HD Y Y Y (λw' hs=>(rA hs d)) Y (lS f)) (Tk 7 Y Y (EX I7 Y Y t) (ty 8 Y Y (cv A6P Y Y Y Y (λw' hs=>(bU (rA hs q) (rA hs g))) ?_)));refine tZ Y (tW 9 Y Y Y (tE (Xt (CN Y (λx=>?_) (λx=>?_)))))
    ·refine Sr (Pe Y (Ct (Xq (Xr (Xr (Xq (Xr (Rb Y Y ?_))))))));simp;intro e;subst e;simp_all
    ·refine Ck (Xb (Xt (Cr (p1 Y (ad (k+1) Y (Pe Y (λac w' hf hs=>⟨_,?_,k+1,?_,?_,Y,hf.wk Y,hs⟩)))))))
     ·omega
     ·omega
     ·refine DF hi ‹_› ‹_› ?_;simp_all
   ·refine Cx (Xx (Xx (Xe (Xt (Sr (Pe Y (Ct (Rb Y Y ?_))))))));simp;exact C7 (by omega) (λi h=>hi i (by omega))
theorem VW{w:World}{f:Value}{a:(List Stamp)}{left:Int}(b:Gd.rd w [f] a)(h0:0<=left)(h1:left<=1048576)(r:LR MA a):Cy 34 [f,(iv left)] w (Val w (iv (ED (DD CM a) left))):=by
 have s:=rM b;refine enter 27 Tryz.func34 Y Y Y (Sr (Pe Y (Sr (P2 Y Y (dl lV Y (AE b) (q1 Y (B3 Y Y Y Y (by omega)) (Pe Y (Cq (Sr (P2 Y Y (Dx (Cd Y (λh=>?_) (λh=>?_)))))))))))))
 ·refine Sr (Pe Y (Ct (Xr (Ri Y Y ?_))));show((-1):Int)=_;refine(F8 ?_).symm;unfold DD;omega
 ·refine Sk (Cq (Sr (Pe Y (Cb (Cl (λm_ ac w'=>∃(k:Nat),∃(lf:Int),(k<=a.length)/\(0<=lf/\lf=left-a.length-AI CM (a.take k))/\m_=a.length-k/\Fits ac 27 [(0,f),(1,(iv lf)),(5,(nv k))]/\St w ([]) w') ?_ ?_)))))
  ·refine λac w' hf hs=>⟨_,0,(left-((a.length:Nat):Int)),?_,?_,Y,hf.wk Y,hs⟩
   ·omega
   ·simp[AI];omega
  ·rintro m_ ac w' ⟨k,lf,hk,hl,rfl,hf,hs⟩;refine D.use ?_ hf hs;clear hf hs ac w';have ht:=AV a CM k;refine Cq (Sr (P2 Y Y (dl lV Y (AE b) (Pe Y (Cd Y (λi=>?_) (λi=>?_))))))
   ·refine Sk (Cq (Cb (Sr (P2 Y Y ?_))));obtain⟨r0,d⟩:=sI a k;have hro:=r _ (List.mem_of_getElem? d);have t:=AV a CM (k+1);have hst:=G2 (c:=CM) d;obtain⟨u,m,g⟩:=AC (n:=3) rfl b d;obtain⟨x,rfl,o⟩:=B9 g;have v:=rM o;have q:=BE g;refine q1 Y (AJ (l:=a) (j:=k) lV Y Y Y (λw' hs=>(rA hs b)) Y (lS d)) (q1 Y (EX zY Y Y m) (p1 Y (qv A6Q Y (λw' hs=>(Y3 (rA hs g) (by omega) (by omega) hro)) (Pe Y (Sr (P2 Y Y (Dx (Cd Y (λe=>?_) (λe=>?_)))))))))
    ·refine Sr (Pe Y (Ct (Xq (Xr (Xr (Xq (Xr (Ri Y Y ?_))))))));show((-1):Int)=_;refine(F8 ?_).symm;unfold DD;unfold ED at*;split at* <;>omega
    ·have p:=EE e;refine Ck (Xb (Xt (Cr (p1 Y (ad (k+1) Y (Pe Y (λac w' hf hs=>⟨_,?_,k+1,(ED (CM r0) lf),?_,?_,Y,hf.wk Y,hs⟩)))))))
     ·omega
     ·omega
     ·rw[hst];unfold ED at*;split at* <;>omega
   ·refine Cx (Xx (Xx (Xe (Xt (Sr (P2 Y Y (Dx (Ct (Ri Y Y ?_)))))))));show(lf:Int)=_;rw[KV];all_goals (unfold DD;rw[List.take_of_length_le (by omega)] at hl;omega)
theorem VX{w:World}{e:Value}{a:(List Stamp)}(b:Gd.rd w [e] a)(t:DD CM a<=1048576):Cy 40 [e] w (HH w (a:List Stamp)):=by
 have u:=rM b;unfold DD at t;refine enter 23 Tryz.func40 Y Y Y (Sr (Pe Y (Sr (p1 Y (dl lV Y (AE b) (li Y (WV (α:=Stamp) (z0:=FN) HJ SC Y Y Y Y Y Y pB (by omega) (by omega) λv2=>?_)))))));refine Pe Y (Dh ([ov [v2] (List.replicate a.length FN:(List Stamp))]) Y (Cq (Sr (Pe Y (Cb (Cl (λm_ ac w'=>∃(k:Nat),∃(v:Value),(k<=a.length)/\m_=a.length-k/\Fits ac 23 [(0,e),(3,v),(4,(nv k))]/\St w ([ov [v] (cp a FN k:(List Stamp))]) w') ?_ ?_))))))
 ·refine A3 0 Y (show(List.replicate a.length FN:(List Stamp))=cp a FN 0 from by rw[KW]) (λac w' hf hs=>⟨_,0,v2,?_,Y,hf.wk Y,hs⟩)
  ·omega
 ·rintro m_ ac w' ⟨k,v,hk,rfl,hf,hs⟩;refine D.use ?_ hf hs;clear hf hs ac w';have hcl:=M5 a FN k hk;refine Cq (Sr (P2 Y Y (dl lV Y (AE b) (Pe Y (Dh ([_]) Y (Cd Y (λi=>?_) (λi=>?_)))))))
  ·refine Sk (Cq (Cb (Cr (P3 Y Y Y (p1 Y ?_)))));obtain⟨o,f⟩:=sI a k;have hle:=C8 (c:=CM) (N6 f);obtain⟨x,m,g⟩:=AC (n:=3) rfl b f;obtain⟨u9,rfl,h⟩:=B9 g;have p:=rM h;have q:=BE g;refine q1 Y (AJ (l:=a) (j:=k) lV Y Y Y (λw' hs=>(rA hs b)) Y (lS f)) (q1 Y (EX zY Y Y m) (qs Y A6R Y (λw' hs=>(Y4 (rA hs g) (by omega))) λr=>?_));refine Dp (λw' hs=>SB (rO (k:=0) hs Y)) ?_;rintro⟨y,rfl,s⟩;obtain⟨z,d⟩:=sI (cp a FN k) k;refine q1 Y (AJ (l:=(cp a FN k)) (j:=k) HJ Y Y Y (λw' hs=>(rO (k:=1) hs Y)) Y (lS d)) (AG [1,0] Y (li Y (soG (α:=Stamp) Y TQ Y Y Y Y Y (lS d) ?_)));refine De (Xb (Xt (Dh ([ov [v] ((cp a FN k).set k o:(List Stamp))]) Y (Cr (p1 Y (ad (k+1) Y (Pe Y (A3 0 Y (show((cp a FN k).set k o:(List Stamp))=cp a FN (k+1) from by rw[M6 ‹_›]) (λac w' hf hs=>⟨_,?_,k+1,v,?_,Y,hf.wk Y,hs⟩)))))))))
   ·omega
   ·omega
  ·refine Cx (Xx (Xx (Xe (Xt (Sr (P2 Y Y (Dx (Ct (FV Y Y λw' hs=>A7 (k:=0) hs Y ?_)))))))));show cp a FN k=a;exact KX (by omega)
theorem VY{w:World}{m:Value}{a:(List Stamp)}{o:Value}{b:(List Stamp)}(c:Gd.rd w [m] a)(f:Gd.rd w [o] b):Cy 51 [m,o] w (Val w (.bool (decide (a=b)))):=by
 have a3:=rM c;have a4:=rM f;refine enter 27 Tryz.func51 Y Y Y (Sr (Pe Y (Cq (Sr (p1 Y (dl HJ Y (AE c) (p1 Y (dl HJ Y (AE f) (Pe Y (Cn Y (λv=>?_) (λv=>?_)))))))))))
 ·refine Sr (Pe Y (Ct (Xr (Rb Y Y ?_))));simp;intro e;subst e;simp_all
 ·refine Sk (Cq (Sr (Pe Y (Cb (Cl (λm_ ac w'=>∃(k:Nat),(k<=a.length)/\(∀i,i<k->a[i]?=b[i]?)/\m_=a.length-k/\Fits ac 27 [(0,m),(1,o),(5,(nv k))]/\St w ([]) w') ?_ ?_)))))
  ·refine λac w' hf hs=>⟨_,0,?_,?_,Y,hf.wk Y,hs⟩
   ·omega
   ·intro i hi;omega
  ·rintro m_ ac w' ⟨k,hk,hi,rfl,hf,hs⟩;refine D.use ?_ hf hs;clear hf hs ac w';refine Cq (Sr (P2 Y Y (dl HJ Y (AE c) (Pe Y (Cd Y (λx=>?_) (λx=>?_))))))
   ·refine Sk (Cq (Cb (Cq (A0 mixed [8,9] (by kernel_rfl) (tK 8 [0,1] Y ?_)))));obtain⟨x5,q⟩:=sI a k;obtain⟨a5,at8,p⟩:=AC (n:=3) rfl c q;obtain⟨a6,rfl,r⟩:=B9 p;have y:=rM r;have z:=BE p;refine Tk 2 Y Y (AJ (l:=a) (j:=k) HJ Y Y Y (λw' hs=>(rA hs c)) Y (lS q)) (Tk 3 Y Y (EX P6 Y Y at8) (tK 4 [4,5] Y ?_));obtain⟨a7,g⟩:=sI b k;obtain⟨a0,s,d⟩:=AC (n:=3) rfl f g;obtain⟨a8,rfl,t⟩:=B9 d;have a1:=rM t;have a2:=BE d;refine Tk 6 Y Y (AJ (l:=b) (j:=k) HJ Y Y Y (λw' hs=>(rA hs f)) Y (lS g)) (Tk 7 Y Y (EX P6 Y Y s) (ty 8 Y Y (cv A3V Y Y Y Y (λw' hs=>(Y5 (rA hs p) (rA hs d))) ?_)));refine tZ Y (tW 9 Y Y Y (tE (Xt (CN Y (λu=>?_) (λu=>?_)))))
    ·refine Sr (Pe Y (Ct (Xq (Xr (Xr (Xq (Xr (Rb Y Y ?_))))))));simp;intro e;subst e;simp_all
    ·refine Ck (Xb (Xt (Cr (p1 Y (ad (k+1) Y (Pe Y (λac w' hf hs=>⟨_,?_,k+1,?_,?_,Y,hf.wk Y,hs⟩)))))))
     ·omega
     ·omega
     ·refine DF hi ‹_› ‹_› ?_;simp_all
   ·refine Cx (Xx (Xx (Xe (Xt (Sr (Pe Y (Ct (Rb Y Y ?_))))))));simp;exact C7 (by omega) (λi h=>hi i (by omega))
theorem T1{w:World}{f:Value}{a:(List Firing)}{left:Int}(b:Gd.rd w [f] a)(h0:0<=left)(h1:left<=1048576)(q:LR TX a):Cy 35 [f,(iv left)] w (Val w (iv (ED (DD DG a) left))):=by
 have r:=rM b;refine enter 27 Tryz.func35 Y Y Y (Sr (Pe Y (Sr (P2 Y Y (dl lW Y (AE b) (q1 Y (B3 Y Y Y Y (by omega)) (Pe Y (Cq (Sr (P2 Y Y (Dx (Cd Y (λh=>?_) (λh=>?_)))))))))))))
 ·refine Sr (Pe Y (Ct (Xr (Ri Y Y ?_))));show((-1):Int)=_;refine(F8 ?_).symm;unfold DD;omega
 ·refine Sk (Cq (Sr (Pe Y (Cb (Cl (λm_ ac w'=>∃(k:Nat),∃(lf:Int),(k<=a.length)/\(0<=lf/\lf=left-a.length-AI DG (a.take k))/\m_=a.length-k/\Fits ac 27 [(0,f),(1,(iv lf)),(5,(nv k))]/\St w ([]) w') ?_ ?_)))))
  ·refine λac w' hf hs=>⟨_,0,(left-((a.length:Nat):Int)),?_,?_,Y,hf.wk Y,hs⟩
   ·omega
   ·simp[AI];omega
  ·rintro m_ ac w' ⟨k,lf,hk,hl,rfl,hf,hs⟩;refine D.use ?_ hf hs;clear hf hs ac w';have ht:=AV a DG k;refine Cq (Sr (P2 Y Y (dl lW Y (AE b) (Pe Y (Cd Y (λi=>?_) (λi=>?_))))))
   ·refine Sk (Cq (Cb (Sr (P2 Y Y ?_))));obtain⟨r0,d⟩:=sI a k;have hro:=q _ (List.mem_of_getElem? d);have s:=AV a DG (k+1);have hst:=G2 (c:=DG) d;obtain⟨t,m,g⟩:=AC (n:=2) rfl b d;obtain⟨v,rfl,o⟩:=BQ g;have u:=rM o;refine q1 Y (AJ (l:=a) (j:=k) lW Y Y Y (λw' hs=>(rA hs b)) Y (lS d)) (q1 Y (EX zZ Y Y m) (p1 Y (qv A6S Y (λw' hs=>(VT (rA hs g) (by omega) (by omega) hro)) (Pe Y (Sr (P2 Y Y (Dx (Cd Y (λe=>?_) (λe=>?_)))))))))
    ·refine Sr (Pe Y (Ct (Xq (Xr (Xr (Xq (Xr (Ri Y Y ?_))))))));show((-1):Int)=_;refine(F8 ?_).symm;unfold DD;unfold ED at*;split at* <;>omega
    ·have p:=EE e;refine Ck (Xb (Xt (Cr (p1 Y (ad (k+1) Y (Pe Y (λac w' hf hs=>⟨_,?_,k+1,(ED (DG r0) lf),?_,?_,Y,hf.wk Y,hs⟩)))))))
     ·omega
     ·omega
     ·rw[hst];unfold ED at*;split at* <;>omega
   ·refine Cx (Xx (Xx (Xe (Xt (Sr (P2 Y Y (Dx (Ct (Ri Y Y ?_)))))))));show(lf:Int)=_;rw[KV];all_goals (unfold DD;rw[List.take_of_length_le (by omega)] at hl;omega)
theorem T2{w:World}{e:Value}{a:(List Firing)}(b:Gd.rd w [e] a)(s:DD DG a<=1048576):Cy 41 [e] w (HH w (a:List Firing)):=by
 have t:=rM b;unfold DD at s;refine enter 23 Tryz.func41 Y Y Y (Sr (Pe Y (Sr (p1 Y (dl lW Y (AE b) (li Y (WV (α:=Firing) (z0:=EU) JL pG Y Y Y Y Y Y lP (by omega) (by omega) λv2=>?_)))))));refine Pe Y (Dh ([ov [v2] (List.replicate a.length EU:(List Firing))]) Y (Cq (Sr (Pe Y (Cb (Cl (λm_ ac w'=>∃(k:Nat),∃(v:Value),(k<=a.length)/\m_=a.length-k/\Fits ac 23 [(0,e),(3,v),(4,(nv k))]/\St w ([ov [v] (cp a EU k:(List Firing))]) w') ?_ ?_))))))
 ·refine A3 0 Y (show(List.replicate a.length EU:(List Firing))=cp a EU 0 from by rw[KW]) (λac w' hf hs=>⟨_,0,v2,?_,Y,hf.wk Y,hs⟩)
  ·omega
 ·rintro m_ ac w' ⟨k,v,hk,rfl,hf,hs⟩;refine D.use ?_ hf hs;clear hf hs ac w';have hcl:=M5 a EU k hk;refine Cq (Sr (P2 Y Y (dl lW Y (AE b) (Pe Y (Dh ([_]) Y (Cd Y (λi=>?_) (λi=>?_)))))))
  ·refine Sk (Cq (Cb (Cr (P3 Y Y Y (p1 Y ?_)))));obtain⟨o,f⟩:=sI a k;have hle:=C8 (c:=DG) (N6 f);obtain⟨u,m,g⟩:=AC (n:=2) rfl b f;obtain⟨z,rfl,h⟩:=BQ g;have p:=rM h;refine q1 Y (AJ (l:=a) (j:=k) lW Y Y Y (λw' hs=>(rA hs b)) Y (lS f)) (q1 Y (EX zZ Y Y m) (qs Y A6T Y (λw' hs=>(VU (rA hs g) (by omega))) λq=>?_));refine Dp (λw' hs=>P0 (rO (k:=0) hs Y)) ?_;rintro⟨x,rfl,r⟩;obtain⟨y,d⟩:=sI (cp a EU k) k;refine q1 Y (AJ (l:=(cp a EU k)) (j:=k) JL Y Y Y (λw' hs=>(rO (k:=1) hs Y)) Y (lS d)) (AG [1,0] Y (li Y (soG (α:=Firing) Y wC Y Y Y Y Y (lS d) ?_)));refine De (Xb (Xt (Dh ([ov [v] ((cp a EU k).set k o:(List Firing))]) Y (Cr (p1 Y (ad (k+1) Y (Pe Y (A3 0 Y (show((cp a EU k).set k o:(List Firing))=cp a EU (k+1) from by rw[M6 ‹_›]) (λac w' hf hs=>⟨_,?_,k+1,v,?_,Y,hf.wk Y,hs⟩)))))))))
   ·omega
   ·omega
  ·refine Cx (Xx (Xx (Xe (Xt (Sr (P2 Y Y (Dx (Ct (FV Y Y λw' hs=>A7 (k:=0) hs Y ?_)))))))));show cp a EU k=a;exact KX (by omega)
theorem T3{w:World}{m:Value}{a:(List Firing)}{o:Value}{b:(List Firing)}(c:Gd.rd w [m] a)(d:Gd.rd w [o] b):Cy 52 [m,o] w (Val w (.bool (decide (a=b)))):=by
 have a1:=rM c;have a2:=rM d;refine enter 27 Tryz.func52 Y Y Y (Sr (Pe Y (Cq (Sr (p1 Y (dl JL Y (AE c) (p1 Y (dl JL Y (AE d) (Pe Y (Cn Y (λv=>?_) (λv=>?_)))))))))))
 ·refine Sr (Pe Y (Ct (Xr (Rb Y Y ?_))));simp;intro e;subst e;simp_all
 ·refine Sk (Cq (Sr (Pe Y (Cb (Cl (λm_ ac w'=>∃(k:Nat),(k<=a.length)/\(∀i,i<k->a[i]?=b[i]?)/\m_=a.length-k/\Fits ac 27 [(0,m),(1,o),(5,(nv k))]/\St w ([]) w') ?_ ?_)))))
  ·refine λac w' hf hs=>⟨_,0,?_,?_,Y,hf.wk Y,hs⟩
   ·omega
   ·intro i hi;omega
  ·rintro m_ ac w' ⟨k,hk,hi,rfl,hf,hs⟩;refine D.use ?_ hf hs;clear hf hs ac w';refine Cq (Sr (P2 Y Y (dl JL Y (AE c) (Pe Y (Cd Y (λx=>?_) (λx=>?_))))))
   ·refine Sk (Cq (Cb (Cq (A0 mixed [8,9] (by kernel_rfl) (tK 8 [0,1] Y ?_)))));obtain⟨x5,p⟩:=sI a k;obtain⟨a3,at8,q⟩:=AC (n:=2) rfl c p;obtain⟨a4,rfl,r⟩:=BQ q;have y:=rM r;refine Tk 2 Y Y (AJ (l:=a) (j:=k) JL Y Y Y (λw' hs=>(rA hs c)) Y (lS p)) (Tk 3 Y Y (EX VM Y Y at8) (tK 4 [4,5] Y ?_));obtain⟨a5,f⟩:=sI b k;obtain⟨z,s,g⟩:=AC (n:=2) rfl d f;obtain⟨a6,rfl,t⟩:=BQ g;have a0:=rM t;refine Tk 6 Y Y (AJ (l:=b) (j:=k) JL Y Y Y (λw' hs=>(rA hs d)) Y (lS f)) (Tk 7 Y Y (EX VM Y Y s) (ty 8 Y Y (cv A3W Y Y Y Y (λw' hs=>(VV (rA hs q) (rA hs g))) ?_)));refine tZ Y (tW 9 Y Y Y (tE (Xt (CN Y (λu=>?_) (λu=>?_)))))
    ·refine Sr (Pe Y (Ct (Xq (Xr (Xr (Xq (Xr (Rb Y Y ?_))))))));simp;intro e;subst e;simp_all
    ·refine Ck (Xb (Xt (Cr (p1 Y (ad (k+1) Y (Pe Y (λac w' hf hs=>⟨_,?_,k+1,?_,?_,Y,hf.wk Y,hs⟩)))))))
     ·omega
     ·omega
     ·refine DF hi ‹_› ‹_› ?_;simp_all
   ·refine Cx (Xx (Xx (Xe (Xt (Sr (Pe Y (Ct (Rb Y Y ?_))))))));simp;exact C7 (by omega) (λi h=>hi i (by omega))
theorem VZ{w:World}{f:Value}{a:(List Event)}{left:Int}(b:Gd.rd w [f] a)(h0:0<=left)(h1:left<=1048576)(r:LR wK a):Cy 18 [f,(iv left)] w (Val w (iv (ED (DD L9 a) left))):=by
 have s:=rM b;refine enter 27 Tryz.func18 Y Y Y (Sr (Pe Y (Sr (P2 Y Y (dl lZ Y (AE b) (q1 Y (B3 Y Y Y Y (by omega)) (Pe Y (Cq (Sr (P2 Y Y (Dx (Cd Y (λh=>?_) (λh=>?_)))))))))))))
 ·refine Sr (Pe Y (Ct (Xr (Ri Y Y ?_))));show((-1):Int)=_;refine(F8 ?_).symm;unfold DD;omega
 ·refine Sk (Cq (Sr (Pe Y (Cb (Cl (λm_ ac w'=>∃(k:Nat),∃(lf:Int),(k<=a.length)/\(0<=lf/\lf=left-a.length-AI L9 (a.take k))/\m_=a.length-k/\Fits ac 27 [(0,f),(1,(iv lf)),(5,(nv k))]/\St w ([]) w') ?_ ?_)))))
  ·refine λac w' hf hs=>⟨_,0,(left-((a.length:Nat):Int)),?_,?_,Y,hf.wk Y,hs⟩
   ·omega
   ·simp[AI];omega
  ·rintro m_ ac w' ⟨k,lf,hk,hl,rfl,hf,hs⟩;refine D.use ?_ hf hs;clear hf hs ac w';have ht:=AV a L9 k;refine Cq (Sr (P2 Y Y (dl lZ Y (AE b) (Pe Y (Cd Y (λi=>?_) (λi=>?_))))))
   ·refine Sk (Cq (Cb (Sr (P2 Y Y ?_))));obtain⟨r0,d⟩:=sI a k;have hro:=r _ (List.mem_of_getElem? d);have t:=AV a L9 (k+1);have hst:=G2 (c:=L9) d;obtain⟨u,m,g⟩:=AC (n:=4) rfl b d;obtain⟨x,rfl,o⟩:=D2 g;have v:=rM o;have q:=CC g;refine q1 Y (AJ (l:=a) (j:=k) lZ Y Y Y (λw' hs=>(rA hs b)) Y (lS d)) (q1 Y (EX A0A Y Y m) (p1 Y (qv A6U Y (λw' hs=>(YX (rA hs g) (by omega) (by omega) hro)) (Pe Y (Sr (P2 Y Y (Dx (Cd Y (λe=>?_) (λe=>?_)))))))))
    ·refine Sr (Pe Y (Ct (Xq (Xr (Xr (Xq (Xr (Ri Y Y ?_))))))));show((-1):Int)=_;refine(F8 ?_).symm;unfold DD;unfold ED at*;split at* <;>omega
    ·have p:=EE e;refine Ck (Xb (Xt (Cr (p1 Y (ad (k+1) Y (Pe Y (λac w' hf hs=>⟨_,?_,k+1,(ED (L9 r0) lf),?_,?_,Y,hf.wk Y,hs⟩)))))))
     ·omega
     ·omega
     ·rw[hst];unfold ED at*;split at* <;>omega
   ·refine Cx (Xx (Xx (Xe (Xt (Sr (P2 Y Y (Dx (Ct (Ri Y Y ?_)))))))));show(lf:Int)=_;rw[KV];all_goals (unfold DD;rw[List.take_of_length_le (by omega)] at hl;omega)
theorem V0{w:World}{e:Value}{a:(List Event)}(b:Gd.rd w [e] a)(t:DD L9 a<=1048576):Cy 21 [e] w (HH w (a:List Event)):=by
 have u:=rM b;unfold DD at t;refine enter 23 Tryz.func21 Y Y Y (Sr (Pe Y (Sr (p1 Y (dl lZ Y (AE b) (li Y (WV (α:=Event) (z0:=FM) MU vU Y Y Y Y Y Y pA (by omega) (by omega) λv2=>?_)))))));refine Pe Y (Dh ([ov [v2] (List.replicate a.length FM:(List Event))]) Y (Cq (Sr (Pe Y (Cb (Cl (λm_ ac w'=>∃(k:Nat),∃(v:Value),(k<=a.length)/\m_=a.length-k/\Fits ac 23 [(0,e),(3,v),(4,(nv k))]/\St w ([ov [v] (cp a FM k:(List Event))]) w') ?_ ?_))))))
 ·refine A3 0 Y (show(List.replicate a.length FM:(List Event))=cp a FM 0 from by rw[KW]) (λac w' hf hs=>⟨_,0,v2,?_,Y,hf.wk Y,hs⟩)
  ·omega
 ·rintro m_ ac w' ⟨k,v,hk,rfl,hf,hs⟩;refine D.use ?_ hf hs;clear hf hs ac w';have hcl:=M5 a FM k hk;refine Cq (Sr (P2 Y Y (dl lZ Y (AE b) (Pe Y (Dh ([_]) Y (Cd Y (λi=>?_) (λi=>?_)))))))
  ·refine Sk (Cq (Cb (Cr (P3 Y Y Y (p1 Y ?_)))));obtain⟨o,f⟩:=sI a k;have hle:=C8 (c:=L9) (N6 f);obtain⟨x,m,g⟩:=AC (n:=4) rfl b f;obtain⟨u9,rfl,h⟩:=D2 g;have p:=rM h;have q:=CC g;refine q1 Y (AJ (l:=a) (j:=k) lZ Y Y Y (λw' hs=>(rA hs b)) Y (lS f)) (q1 Y (EX A0A Y Y m) (qs Y A6V Y (λw' hs=>(YY (rA hs g) (by omega))) λr=>?_));refine Dp (λw' hs=>SA (rO (k:=0) hs Y)) ?_;rintro⟨y,rfl,s⟩;obtain⟨z,d⟩:=sI (cp a FM k) k;refine q1 Y (AJ (l:=(cp a FM k)) (j:=k) MU Y Y Y (λw' hs=>(rO (k:=1) hs Y)) Y (lS d)) (AG [1,0] Y (li Y (soG (α:=Event) Y A1Q Y Y Y Y Y (lS d) ?_)));refine De (Xb (Xt (Dh ([ov [v] ((cp a FM k).set k o:(List Event))]) Y (Cr (p1 Y (ad (k+1) Y (Pe Y (A3 0 Y (show((cp a FM k).set k o:(List Event))=cp a FM (k+1) from by rw[M6 ‹_›]) (λac w' hf hs=>⟨_,?_,k+1,v,?_,Y,hf.wk Y,hs⟩)))))))))
   ·omega
   ·omega
  ·refine Cx (Xx (Xx (Xe (Xt (Sr (P2 Y Y (Dx (Ct (FV Y Y λw' hs=>A7 (k:=0) hs Y ?_)))))))));show cp a FM k=a;exact KX (by omega)
theorem V1{w:World}{m:Value}{a:(List Event)}{o:Value}{b:(List Event)}(c:Gd.rd w [m] a)(f:Gd.rd w [o] b):Cy 24 [m,o] w (Val w (.bool (decide (a=b)))):=by
 have a3:=rM c;have a4:=rM f;refine enter 27 Tryz.func24 Y Y Y (Sr (Pe Y (Cq (Sr (p1 Y (dl MU Y (AE c) (p1 Y (dl MU Y (AE f) (Pe Y (Cn Y (λv=>?_) (λv=>?_)))))))))))
 ·refine Sr (Pe Y (Ct (Xr (Rb Y Y ?_))));simp;intro e;subst e;simp_all
 ·refine Sk (Cq (Sr (Pe Y (Cb (Cl (λm_ ac w'=>∃(k:Nat),(k<=a.length)/\(∀i,i<k->a[i]?=b[i]?)/\m_=a.length-k/\Fits ac 27 [(0,m),(1,o),(5,(nv k))]/\St w ([]) w') ?_ ?_)))))
  ·refine λac w' hf hs=>⟨_,0,?_,?_,Y,hf.wk Y,hs⟩
   ·omega
   ·intro i hi;omega
  ·rintro m_ ac w' ⟨k,hk,hi,rfl,hf,hs⟩;refine D.use ?_ hf hs;clear hf hs ac w';refine Cq (Sr (P2 Y Y (dl MU Y (AE c) (Pe Y (Cd Y (λx=>?_) (λx=>?_))))))
   ·refine Sk (Cq (Cb (Cq (A0 mixed [8,9] (by kernel_rfl) (tK 8 [0,1] Y ?_)))));obtain⟨x5,q⟩:=sI a k;obtain⟨a5,at8,p⟩:=AC (n:=4) rfl c q;obtain⟨a6,rfl,r⟩:=D2 p;have y:=rM r;have z:=CC p;refine Tk 2 Y Y (AJ (l:=a) (j:=k) MU Y Y Y (λw' hs=>(rA hs c)) Y (lS q)) (Tk 3 Y Y (EX fM Y Y at8) (tK 4 [4,5] Y ?_));obtain⟨a7,g⟩:=sI b k;obtain⟨a0,s,d⟩:=AC (n:=4) rfl f g;obtain⟨a8,rfl,t⟩:=D2 d;have a1:=rM t;have a2:=CC d;refine Tk 6 Y Y (AJ (l:=b) (j:=k) MU Y Y Y (λw' hs=>(rA hs f)) Y (lS g)) (Tk 7 Y Y (EX fM Y Y s) (ty 8 Y Y (cv A6W Y Y Y Y (λw' hs=>(YZ (rA hs p) (rA hs d))) ?_)));refine tZ Y (tW 9 Y Y Y (tE (Xt (CN Y (λu=>?_) (λu=>?_)))))
    ·refine Sr (Pe Y (Ct (Xq (Xr (Xr (Xq (Xr (Rb Y Y ?_))))))));simp;intro e;subst e;simp_all
    ·refine Ck (Xb (Xt (Cr (p1 Y (ad (k+1) Y (Pe Y (λac w' hf hs=>⟨_,?_,k+1,?_,?_,Y,hf.wk Y,hs⟩)))))))
     ·omega
     ·omega
     ·refine DF hi ‹_› ‹_› ?_;simp_all
   ·refine Cx (Xx (Xx (Xe (Xt (Sr (Pe Y (Ct (Rb Y Y ?_))))))));simp;exact C7 (by omega) (λi h=>hi i (by omega))
theorem V2{w:World}{f:List Value}{a:Engine}{left:Int}(l:Gd.rd w f a)(h0:0<=left)(h1:left<=1048576)(k:QC a):Cy 8 [(.agg f.toArray),(iv left)] w (Val w (iv (ED (DI a) left))):=by
 obtain⟨t,u,v,x,rfl,g,h,i,j⟩:=C6 l;have y:=rM g;have q:=rM h;have r:=rM i;have s:=rM j;refine enter 30 Tryz.func8 Y Y Y (Sr (bX Y λg13=>?_));refine Pe Y (Dh ([bx g13 [t,u,(iv a.Clock),v,(.bool a.Halted),x]]) Y (Sr (fl 0 pH A3X Y (p1 Y (qv A6X Y (λw' hs=>(Y6 (rA hs g) ‹_› ‹_› k.1)) (Pe Y (Cq (Sr (P2 Y Y (Dx (Cd Y (λb=>?_) (λb=>?_))))))))))))
 ·refine Sr (Pe Y (Ct (Xr (Ri Y Y ?_))));show((-1):Int)=_;unfold DI ED at*;repeat (split at* <;>try omega)
 ·have m:=EE b;refine Sk (Sr (fl 0 pJ A3Y Y (p1 Y (qv A6Y Y (λw' hs=>(VW (rA hs h) (by omega) (by omega) k.2.1)) (Pe Y (Cq (Sr (P2 Y Y (Dx (Cd Y (λc=>?_) (λc=>?_)))))))))))
  ·refine Sr (Pe Y (Ct (Xr (Ri Y Y ?_))));show((-1):Int)=_;unfold DI ED at*;repeat (split at* <;>try omega)
  ·have n:=EE c;refine Sk (Sr (fl 0 pK A3Z Y (p1 Y (qv A6Z Y (λw' hs=>(T1 (rA hs i) (by omega) (by omega) k.2.2.2.1)) (Pe Y (AH [1,2] Y (Cq (Sr (P2 Y Y (Dx (Cd Y (λd=>?_) (λd=>?_))))))))))))
   ·refine Sr (Pe Y (Ct (Xr (Ri Y Y ?_))));show((-1):Int)=_;unfold DI ED at*;repeat (split at* <;>try omega)
   ·have o:=EE d;refine Sk (Sr (fl 0 pL A3a Y (p1 Y (qv A6a Y (λw' hs=>(VZ (rA hs j) (by omega) (by omega) k.2.2.2.2.2)) (Pe Y (Cq (Sr (P2 Y Y (Dx (Cd Y (λe=>?_) (λe=>?_)))))))))))
    ·refine Sr (Pe Y (Ct (Xr (Ri Y Y ?_))));show((-1):Int)=_;unfold DI ED at*;repeat (split at* <;>try omega)
    ·have p:=EE e;refine Sk (Sr (P2 Y Y (Dx (Ct (Ri Y Y ?_)))));show((ED (DD L9 a.Log) (ED (DD DG a.Fired) (ED (DD CM a.Memory) (ED (DD BG a.Rules) left)))):Int)=_;unfold DI ED at*;repeat (split at* <;>try omega)
theorem IW{w:World}{h:List Value}{a:Engine}(n:Gd.rd w h a)(t:DI a<=1048576):Cy 10 [(.agg h.toArray)] w (HH w (a:Engine)):=by
 obtain⟨u,v,x,y,rfl,i,j,l,m⟩:=C6 n;have z:=rM i;have o:=rM j;have p:=rM l;have s:=rM m;unfold DI at t;refine enter 27 Tryz.func10 Y Y Y (Sr (bX Y λg13=>?_));refine aL A1S Y λg14=>?_
 refine Dx (Dh ([bx g14 [(.slice none 0 0),(.slice none 0 0),(iv 0),(.slice none 0 0),(.bool false),(.slice none 0 0)],bx g13 [u,v,(iv a.Clock),x,(.bool a.Halted),y]]) Y (Sr (aL A1S Y λg15=>?_)));refine Dx (Dh ([bx g15 [(.slice none 0 0),(.slice none 0 0),(iv 0),(.slice none 0 0),(.bool false),(.slice none 0 0)],_,_]) Y (Sr (fl 2 pH A3X Y (ql A6b Y (λw' hs=>(Y7 (rA hs i) (by omega))) λb=>?_))));refine q1 Y (Db JM Y Y (q:=0) Y) (Dp (λw' hs=>CZ (k:=0) hs Y) ?_);intro d;refine li Y (AZ (vs:=[b]) (cs':=[b,(.slice none 0 0),(iv 0),(.slice none 0 0),(.bool false),(.slice none 0 0)]) 1 A6c Y Y Y Y Y (AO d) (AB d BR) (by simp) Y ?_);refine Dx (Dh ([ov [b] (a.Rules:(List Rule)),bx g15 [b,(.slice none 0 0),(iv 0),(.slice none 0 0),(.bool false),(.slice none 0 0)],_,_]) Y (Sr (fl 3 pJ A3Y Y (ql A6d Y (λw' hs=>(VX (rA hs j) (by omega))) λc=>?_))));refine q1 Y (Db J3 Y Y (q:=1) Y) (Dp (λw' hs=>CZ (k:=0) hs Y) ?_);intro e;refine li Y (AZ (vs:=[c]) (cs':=[b,c,(iv 0),(.slice none 0 0),(.bool false),(.slice none 0 0)]) 2 A6e Y Y Y Y Y (AO e) (AB e BR) (by simp) Y ?_);refine Dx (Dh ([ov [c] (a.Memory:(List Stamp)),_,bx g15 [b,c,(iv 0),(.slice none 0 0),(.bool false),(.slice none 0 0)],_,_]) Y (Sr (fl 4 A1T CJ Y (q1 Y (Db K9 Y Y (q:=2) Y) (li Y (AZ (vs:=[(iv a.Clock)]) (cs':=[b,c,(iv a.Clock),(.slice none 0 0),(.bool false),(.slice none 0 0)]) 2 PC Y Y Y Y Y Y (AB Y BR) (by simp) Y ?_))))));refine Dx (Dh ([_,_,bx g15 [b,c,(iv a.Clock),(.slice none 0 0),(.bool false),(.slice none 0 0)],_,_]) Y (Sr (fl 4 pK A3Z Y (ql A6f Y (λw' hs=>(T2 (rA hs l) (by omega))) λv20=>?_))));refine q1 Y (Db HM Y Y (q:=3) Y) (Dp (λw' hs=>CZ (k:=0) hs Y) ?_);intro f;refine li Y (AZ (vs:=[v20]) (cs':=[b,c,(iv a.Clock),v20,(.bool false),(.slice none 0 0)]) 3 A6g Y Y Y Y Y (AO f) (AB f BR) (by simp) Y ?_);refine Dx (AH [1,2,3] Y (Dh ([ov [v20] (a.Fired:(List Firing)),_,_,bx g15 [b,c,(iv a.Clock),v20,(.bool false),(.slice none 0 0)],_,_]) Y (Sr (fl 5 A1U o_4 Y (q1 Y (Db fN Y Y (q:=4) Y) (li Y (AZ (vs:=[(.bool a.Halted)]) (cs':=[b,c,(iv a.Clock),v20,(.bool a.Halted),(.slice none 0 0)]) 3 z_4 Y Y Y Y Y Y (AB Y BR) (by simp) Y ?_)))))));refine Dx (Dh ([_,_,_,bx g15 [b,c,(iv a.Clock),v20,(.bool a.Halted),(.slice none 0 0)],_,_]) Y (Sr (fl 5 pL A3a Y (ql A6h Y (λw' hs=>(V0 (rA hs m) (by omega))) λv22=>?_))));refine q1 Y (Db L5 Y Y (q:=5) Y) (Dp (λw' hs=>CZ (k:=0) hs Y) ?_);intro g;refine li Y (AZ (vs:=[v22]) (cs':=[b,c,(iv a.Clock),v20,(.bool a.Halted),v22]) 4 A6i Y Y Y Y Y (AO g) (AB g BR) (by simp) Y ?_);refine Dx (Dh ([ov [v22] (a.Log:(List Event)),_,_,_,bx g15 [b,c,(iv a.Clock),v20,(.bool a.Halted),v22],_,_]) Y (Sr (q1 Y (C9 4 YR Y Y Y) (li Y (AZ (vs:=[b,c,(iv a.Clock),v20,(.bool a.Halted),v22]) (cs':=[b,c,(iv a.Clock),v20,(.bool a.Halted),v22]) 5 A3b Y Y Y Y Y Y (AB d (AB e (AB Y (AB f (AB Y (AB g BR)))))) (by simp) Y ?_)))));refine Dx (Ct (AG [3,2,1,0,4,5,6] Y (W0 (r:=(a:Engine)) (eW 2 YR Y Y Y λw' hs=>A7 (k:=0) hs Y ?_))));show(a:Engine)=a;rfl
theorem V3{w:World}{g:List Value}{a:Engine}{h:List Value}{b:Engine}(s:Gd.rd w g a)(t:Gd.rd w h b):Cy 12 [(.agg g.toArray),(.agg h.toArray)] w (Val w (.bool (decide (a=b)))):=by
 obtain⟨u1,u3,u5,u7,rfl,i,j,k,l⟩:=C6 s;have a9:=rM i;have a1:=rM j;have a2:=rM k;have a3:=rM l;obtain⟨u,v,x,y,rfl,c,d,e,f⟩:=C6 t;have a4:=rM c;have a5:=rM d;have a6:=rM e;have a7:=rM f;refine enter 39 Tryz.func12 Y Y Y (Sr (bX Y λz=>?_));refine bX Y λa0=>?_
 refine Pe Y (Dh ([bx a0 [u,v,(iv b.Clock),x,(.bool b.Halted),y],bx z [u1,u3,(iv a.Clock),u5,(.bool a.Halted),u7]]) Y (Cq (Sr (fl 1 JM TR Y (fl 0 JM TR Y (qv A6j Y (λw' hs=>(Y8 (rA hs i) (rA hs c))) (Pe Y (CN Y (λm=>?_) (λm=>?_)))))))))
 ·refine Sr (Pe Y (Ct (Xr (Rb Y Y ?_))))
  cases a;cases b;simp_all
 ·refine Sk (Cq (Sr (fl 1 J3 VN Y (fl 0 J3 VN Y (qv A6k Y (λw' hs=>(VY (rA hs j) (rA hs d))) (Pe Y (CN Y (λn=>?_) (λn=>?_))))))))
  ·refine Sr (Pe Y (Ct (Xr (Rb Y Y ?_))))
   cases a;cases b;simp_all
  ·refine Sk (AH [2,3] Y (Cq (Sr (fl 1 K9 CJ Y (fl 0 K9 CJ Y (Pe Y (Cn Y (λo=>?_) (λo=>?_))))))))
   ·refine Sr (Pe Y (Ct (Xr (Rb Y Y ?_))))
    cases a;cases b;simp_all
   ·refine Sk (Cq (Sr (fl 1 HM P7 Y (fl 0 HM P7 Y (qv A6l Y (λw' hs=>(T3 (rA hs k) (rA hs e))) (Pe Y (CN Y (λp=>?_) (λp=>?_))))))))
    ·refine Sr (Pe Y (Ct (Xr (Rb Y Y ?_))))
     cases a;cases b;simp_all
    ·refine Sk (Cq (Sr (fl 1 fN o_4 Y (fl 0 fN o_4 Y (q1 Y (A2x A6m Y Y Y) (Dx (AH [2,3,32] Y (Ci _ Y (λq=>?_) (λq=>?_)))))))))
     ·refine Sr (Pe Y (Ct (Xr (Rb Y Y ?_))))
      cases a;cases b;simp_all
     ·have a8:=fC q;refine Sk (Cq (Sr (fl 1 L5 aY Y (fl 0 L5 aY Y (qv A6n Y (λw' hs=>(V1 (rA hs l) (rA hs f))) (Pe Y (CN Y (λr=>?_) (λr=>?_))))))))
      ·refine Sr (Pe Y (Ct (Xr (Rb Y Y ?_))))
       cases a;cases b;simp_all
      ·refine Sk (Sr (Pe Y (Ct (Rb Y Y ?_))))
       cases a;cases b;simp_all
end Go.Sy.Ev2
