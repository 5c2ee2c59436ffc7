/-
  Contracts of functions of the program, walked (printed by a program of ours).
  Conditions: those that each theorem states.
-/
import Derived.Test.YtbnpgdcpbmaebaaGreatDoorFct
import Derived.Test.YtbnpgdcpbmaebaaGreatDoorCmp1
import Derived.Test.YtbnpgdcpbmaebaaGreatDoorSrt2
import Derived.Test.YtbnpgdcpbmaebaaGreatDoorDrm
import Derived.Test.YtbnpgdcpbmaebaaGreatDoorTypes
import Derived.Test.YtbnpgdcpbmaebaaGreatDoorOwn2
import Derived.Test.YtbnpgdcpbmaebaaGreatDoorCur
import Derived.Great.BuildSlice
section
set_option linter.unusedVariables false
set_option maxRecDepth 20000
namespace Go.Sy.Cmp2
open Go Go.RowKit Go.Proofs Go.Sy
open Go.Sy.Bel1 Go.Sy.Ev1 Go.Sy.Ev3 Go.Sy.Fmt1 Go.Sy.Eng1 Go.Sy.Eng2 Go.Sy.Eng3 Go.Sy.Num1 Go.Sy.Num2 Go.Sy.Fal2 Go.Sy.Cho2 Go.Sy.Pdqs Go.Sy.Fal1 Go.Sy.Cmp1 Go.Sy.Srt2
set_option maxHeartbeats 4000000 in
theorem R1{w:World}{h:Value}{l:(List Choice)}(b:Gd.rd w [h] l)(hn:l.length<=4294967296)(y:∀x∈l,DJ x.Match<=1048576/\x.Times.length<=12)(q:Tb w):Cy 36 [h] w (HH w (BY l:(List Choice))):=by
 have a7:=rM b;refine enter 23 Tryz.func36 Y Y Y (Sr (Pe Y (Sr (aL C3s Y λg2=>?_))));refine Dx (Dh ([bx g2 [(.slice none 0 0)]]) Y (Cq (Sr (p1 Y (dl BS Y (AE b) (Pe Y (Cb (Cl (λm_ ac w'=>∃(k:Nat),∃(v:Value),(k<=l.length)/\m_=l.length-k/\Fits ac 23 [(3,(pv g2)),(6,h),(7,(nv l.length)),(8,(nv k))]/\St w ([ov [v] (l.take k:(List Choice)),bx g2 [v]]) w') ?_ ?_))))))))
 ·refine CG (α:=Choice) (A3 0 Y (show([]:(List Choice))=l.take 0 from by rfl) (λac w' hf hs=>⟨_,0,(.slice none 0 0),?_,Y,hf.wk Y,hs⟩))
  ·first|assumption|omega|simp
 ·rintro m_ ac w' ⟨k,v,hk,rfl,hf,hs⟩;refine D.use ?_ hf hs;clear hf hs ac w';have hcl:(l.take k).length<=k:=by rw[List.length_take];omega
  refine Sr (Pe Y (Dh ([_,_]) Y (Cq (Cd Y (λr=>?_) (λr=>?_)))))
  ·refine Sk (Cq (Cb (Sr ?_)));obtain⟨a,c⟩:=sI l k;have hle:=y _ (List.mem_of_getElem? c);obtain⟨a8,s,i⟩:=AC (n:=7) rfl b c;obtain⟨t,u,m,rfl,o,d,f⟩:=BF i;have z:=rM o;have a0:=rM d;have a1:=rM f;have a2:=AQ i;refine q1 Y (AJ (l:=l) (j:=k) BS Y Y Y (λw' hs=>(rA hs b)) Y (lS c)) (q1 Y (EX C3 Y Y s) (aL I6 Y λg17=>?_));refine li Y (AZ (vs:=[(.string a.Match.Rule),t,u,(iv a.Priority),m,(iv a.Specific),(iv a.Order)]) (cs':=[(.string a.Match.Rule),t,u,(iv a.Priority),m,(iv a.Specific),(iv a.Order)]) 0 TP Y Y Y Y Y Y (AB Y (AB (A2 o) (AB (A2 d) (AB Y (AB (A2 f) (AB Y (AB Y BR))))))) (by simp) Y ?_);refine Dx (Dh ([bx g17 [(.string a.Match.Rule),t,u,(iv a.Priority),m,(iv a.Specific),(iv a.Order)],_,_]) Y (A0 mixed [4,5] (by kernel_rfl) (Tk 0 Y Y (lb 2 H7 Y Y Y Y) (Tk 1 Y Y (C9 0 C3 Y Y Y) (ty 2 Y Y (zE Y B3Z Y Y Y Y (λw' hs=>(S2 (rA hs i) hle.1 (by omega))) λa3=>?_))))));refine Dp (λw' hs=>F4 (rO (k:=0) hs Y)) ?_;rintro⟨a9,v20,v21,rfl,a4,a5,a6⟩;refine tS (λ_ hs=>hs.pk [1,2,3] Y Y) (ty 3 Y Y (FF BS I6 Y (by decide) (by decide) Y Y Y Y Y Y λaa=>?_));refine tS (λ_ hs=>hs.pk [2,3,4] Y Y) (AG [3,1,0,2,4] Y (ty 4 Y Y (GZ BS I6 Y (by decide) Y Y Y Y Y Y (by omega) (by omega) λv26=>?_)));refine tZ Y (Dp (λw' hs=>CZ (k:=0) hs Y) ?_);intro g;refine ty 5 Y Y (AZ (vs:=[v26]) (cs':=[v26]) 2 A3U Y Y Y Y Y (AO g) (AB g BR) (by simp) Y ?_);refine tZ Y (tE (Xb (Xt (Dh ([ov [v26] ((l.take k)++ [a]:(List Choice)),_,bx g2 [v26]]) Y (Cr (ad (k+1) Y (Pe Y (A3 0 Y (show((l.take k)++ [a]:(List Choice))=l.take (k+1) from by exact(A1 c).symm) (λac w' hf hs=>⟨_,?_,k+1,v26,?_,Y,hf.wk Y,hs.pk [0,2] Y Y⟩)))))))))
   ·omega
   ·first|assumption|omega|simp
  ·refine Cx (Xx (Xx (Xe (Xt (Sr (q1 Y (lb 1 H7 Y Y Y Y) (q1 Y (A0y BS Y Y) (q1 Y (A6K Y Y) (AG [1,0] Y (A0z (li Y (GK (C:=λe=>star (bx g2 [v]) (ov [v] (e:(List Choice)))) A6R Y Y Y Y (λw' hs=>zC (by rw[List.length_take];omega) q (λx hx=>(y x (List.mem_of_mem_take hx)).2) hs) λab p=>?_))))))))))));subst p;refine A1A (Dx (Dh ([_,ov [v] (BY (l.take k):(List Choice))]) Y (Sr (q1 Y (lb 0 H7 Y Y Y Y) (Pe Y (Ct (FV Y Y λw' hs=>A7 (k:=1) hs Y ?_)))))));show BY (l.take k)=BY l;exact U0 (by omega)
end Go.Sy.Cmp2
end
/-
  What is drawn: memories.
  Conditions: those that each theorem states.
-/
section
namespace Go.Sy
open Go
def smS(s:Stamp):Prop:=F9 s.Fact<=20/\okI s.Time
theorem C4m{l:List Stamp}{a:List Fact}(h:∀s∈l,s.Fact∈a/\okI s.Time)(b:B8T a):∀s∈l,smS s:=λs hs=>⟨Nat.le_trans (b _ (h s hs).1).1 (by decide),(h s hs).2⟩
theorem C4b{l:List Stamp}(hl:l.length<=8)(h:∀s∈l,smS s):DD CM l<=1048576/\LR MA l:=by
 have:=A9m (c:=CM) (n:=20) (l:=l) λs hs=>(h s hs).1
 exact⟨by omega,λs hs=>⟨C3X (Nat.le_trans (h s hs).1 (by decide)),(h s hs).2⟩⟩
end Go.Sy
end
/-
  Drawn results become borrowed: a new base world.
  Conditions: none.
-/
section
namespace Go.Sy
open Go Go.RowKit
section
variable {P:Program} {N:Nat} {w0:World} {H:List Chunk} {L:Fm} {Q:Exit->Act->World->Prop} {o:Oper} {d:Nat} {K:Act->World->Prop}
end
end Go.Sy
end
/-
  Lists of several flat elements, parts of owned lists, results that are only readable.
  Conditions: none.
-/
section
namespace Go.Sy
open Go Go.RowKit
section
variable {P:Program} {N:Nat} {w0:World} {H:List Chunk} {L:Fm} {Q:Exit->Act->World->Prop} {o:Oper} {d:Nat} {K:Act->World->Prop}
end
end Go.Sy
end
