/-
  Plain facts on lists and numbers that the walks lean on.
  Conditions: none.
-/
import Derived.Test.YtbnpgdcpbmaebaaGreatDoorData
import Derived.Test.YtbnpgdcpbmaebaaGreatDoorProg
import Derived.Test.YtbnpgdcpbmaebaaGreatDoorTypes
import Derived.Test.YtbnpgdcpbmaebaaGreatDoorOwn2
import Derived.Test.YtbnpgdcpbmaebaaGreatDoorFct
section
namespace Go.Sy
def ED(n:Nat)(left:Int):Int:=if left<n then-1 else left-n
theorem A1{α:Type}{l:List α}{k:Nat}{x:α}(h:l[k]?=some x):l.take (k+1)=l.take k++ [x]:=by
 have hk:k<l.length:=(List.getElem?_eq_some_iff.1 h).1;rw[List.take_succ_eq_append_getElem hk];rw[List.getElem?_eq_getElem hk] at h;simp only[Option.some.injEq] at h;rw[h]
theorem C7{α:Type}{a b:List α}(hl:a.length=b.length)(h:∀i,i<a.length->a[i]?=b[i]?):a=b:=by
 apply List.ext_getElem?
 intro i
 by_cases hi:i<a.length
 ·exact h i hi
 ·rw[List.getElem?_eq_none (by omega),List.getElem?_eq_none (by omega)]
theorem DF{α:Type}{a b:List α}{k:Nat}{x y:α}(h:∀i,i<k->a[i]?=b[i]?)(d:a[k]?=some x)(g:b[k]?=some y)(e:x=y):∀i,i<k+1->a[i]?=b[i]?:=by
 intro i hi
 by_cases hk:i=k
 ·subst hk;rw[d,g,e]
 ·exact h i (by omega)
theorem AF{p:Nat->Prop}{k:Nat}(h:∀i,i<k->p i)(hk:p k):∀i,i<k+1->p i:=by
 intro i hi
 by_cases e:i=k
 ·subst e;exact hk
 ·exact h i (by omega)
def CP{α:Type}(f:Int->α->α)(c:α->Nat):Int->List α->List α
 |_,[]=> []
 |k,x::l=>f k x::CP f c (k+c x) l
def AI{α:Type}(c:α->Nat)(l:List α):Nat:=(l.map c).sum
section
variable {α:Type} {f:Int->α->α} {c:α->Nat} {k:Int} {l:List α} {i:Nat} {x:α}
theorem mA:AI c (l++ [x])=AI c l+c x:=by simp[AI]
theorem G2(a:l[i]?=some x):AI c (l.take (i+1))=AI c (l.take i)+c x:=by rw[A1 a,mA]
theorem AV(l:List α)(c:α->Nat)(i:Nat):AI c (l.take i)<=AI c l:=by
 have:AI c l=AI c (l.take i)+AI c (l.drop i):=by unfold AI;rw[<-List.sum_append,<-List.map_append,List.take_append_drop]
 omega
end
def fI(k:Int)(_:Int):Int:=k
def cI(_:Int):Nat:=1
abbrev YU(k:Int)(l:List Int):List Int:=CP fI cI k l
def fR(k:Int)(r:Reason):Reason:=⟨k,YU (k+1) r.In,YU (k+1+r.In.length) r.Out⟩
theorem VO{l:List Nat}{n:Nat}(h:n∈l):n<=l.sum:=by
 induction l with
 |nil=>cases h
 | cons x l ih=>
  simp only[List.sum_cons]
  rcases List.mem_cons.1 h with e|h
  ·omega
  ·have:=ih h;omega
def GO(x lo hi:Int):Bool:=decide (lo<=x)&&decide (x<=hi)
theorem IN{α:Type}{l:List α}{p:α->Bool}(h:∀i,i<l.length->∀x,l[i]?=some x->p x=true):l.all p=true:=by
 rw[List.all_eq_true];intro x hx;obtain⟨i,hi⟩:=List.getElem?_of_mem hx;exact h i (List.getElem?_eq_some_iff.1 hi).1 x hi
theorem S6{α:Type}{l:List α}{p:α->Bool}{k:Nat}{x:α}(h:l[k]?=some x)(a:p x=false):l.all p=false:=by
 rw[List.all_eq_false];exact⟨x,List.mem_of_getElem? h,by simp[a]⟩
/- Indices of the elements with a property. -/
/- Marks. -/
end Go.Sy
end
/-
  Contracts of functions of the program, walked (printed by a program of ours).
  Conditions: those that each theorem states.
-/
section
set_option linter.unusedVariables false
set_option maxRecDepth 20000
namespace Go.Sy.Bel1
open Go Go.RowKit Go.Proofs Go.Sy
theorem mixed:Tryz.prog.follows .mixedOrders=true:=by kernel_rfl
theorem E7{w:World}{x:Int}{least:Int}{a:Int}:Calls Tryz.prog 67 [(iv x),(iv least),(iv a)].toArray w (Val w (.bool (GO x least a))):=by
 refine enter 15 Tryz.func67 Y Y Y (Sr (Pe Y (Sr (P3 Y Y Y (p1 Y (EY 10 Y Y (λb=>?_) (λb=>?_)))))))
 ·refine P3 Y Y Y (P2 Y Y (Dx (Ct (Rb Y Y ?_))));show((decide ((x:Int)<=a)):Bool)=_;simp_all[GO];try omega
 ·refine n1 Y (n1 Y (n1 Y (P2 Y Y (Dx (Ct (Rb Y Y ?_))))));simp_all[GO];try omega
end Go.Sy.Bel1
end
/-
  Atoms, names, facts, events: what is valid.
  Conditions: none.
-/
section
namespace Go.Sy
def M8(b:Int):Bool:=GO b 97 122||GO b 48 57
def BA(s:ByteArray):Bool:=decide (1<=s.size)&&decide (s.size<=8)&&(List.range s.size).all (λk=>M8 (sB s k))
theorem S7{s:ByteArray}(h:¬(1<=s.size/\s.size<=8)):false=BA s:=by
 unfold BA;have:(decide (1<=s.size)&&decide (s.size<=8))=false:=by
  rw[Bool.eq_false_iff];simpa using h
 rw[this];rfl
theorem S8{s:ByteArray}{k:Nat}(hk:k<s.size)(h:M8 (sB s k)=false):false=BA s:=by
 unfold BA;have:(List.range s.size).all (λk=>M8 (sB s k))=false:=by
  rw[List.all_eq_false];exact⟨k,by simpa using hk,by simp[h]⟩
 rw[this];simp
theorem qQ{s:ByteArray}(h:1<=s.size/\s.size<=8)(a:∀i,i<s.size->M8 (sB s i)=true):true=BA s:=by
 unfold BA;have:(List.range s.size).all (λk=>M8 (sB s k))=true:=by
  rw[List.all_eq_true];intro i b;exact a i (by simpa using b)
 rw[this,decide_eq_true h.1,decide_eq_true h.2];rfl
theorem A1g{s:ByteArray}(a:∀i,i<s.size->M8 (sB s i)=true):GO (s.size:Int) 1 8=BA s:=by
 by_cases h:1<=s.size/\s.size<=8
 ·rw[<-qQ h a];unfold GO;rw[decide_eq_true (by omega),decide_eq_true (by omega)];rfl
 ·rw[<-S7 h];unfold GO;rw[Bool.eq_false_iff];simp only[ne_eq,Bool.and_eq_true,decide_eq_true_eq];omega
theorem IV{s:ByteArray}(h:BA s=true):1<=s.size/\s.size<=8:=by
 simp only[BA,Bool.and_eq_true,decide_eq_true_eq] at h;exact h.1
theorem wJ{s:ByteArray}(h:BA s=true){k:Nat}(hk:k<s.size):M8 (sB s k)=true:=by
 simp only[BA,Bool.and_eq_true,List.all_eq_true] at h;exact h.2 k (by simpa using hk)
def FK(s:ByteArray):Bool:=BA s&&decide (97<=sB s 0)
theorem A1h{s:ByteArray}(h:BA s=true):GO (sB s 0) 97 122=decide (97<=sB s 0):=by
 have h1:=wJ h (k:=0) (by have:=IV h;omega);unfold M8 GO at*;rw[Bool.eq_iff_iff];simp only[Bool.or_eq_true,Bool.and_eq_true,decide_eq_true_eq] at*;omega
def BI(f:Fact):Bool:=FK f.Rel&&decide (f.Args.length<=3)&&f.Args.all BA
def AN(x:Event):Bool:=
 if x.Kind=1\/x.Kind=2 then decide (x.Rule=⟨#[]⟩)&&BI x.Fact
 else if x.Kind=3\/x.Kind=6 then FK x.Rule&&(decide (x.Fact.Rel=⟨#[]⟩)&&decide (x.Fact.Args.length=0))
 else if x.Kind=4\/x.Kind=5 then FK x.Rule&&BI x.Fact
 else false
def VP(s:ByteArray):Prop:=s.size<=9223372036854775807
def okI(n:Int):Prop:= -9223372036854775808<=n/\n<=9223372036854775807
def A1i(l:List ByteArray):Prop:=∀x∈l,VP x
def P9(f:Fact):Prop:=VP f.Rel/\A1i f.Args
def M9(l:List ByteArray):Nat:=l.length+(l.map (·.size)).sum
def F9(f:Fact):Nat:=f.Rel.size+M9 f.Args
end Go.Sy
end
/-
  Contracts of functions of the program, walked (printed by a program of ours).
  Conditions: those that each theorem states.
-/
section
set_option linter.unusedVariables false
set_option maxRecDepth 20000
namespace Go.Sy.Ev1
open Go Go.RowKit Go.Proofs Go.Sy
open Go.Sy.Bel1
theorem FD{w:World}{s:ByteArray}(d:s.size<=9223372036854775807):Cy 192 [(.string s)] w (Val w (.bool (BA s))):=by
 refine enter 27 Tryz.func192 Y Y Y (Sr (Pe Y (Cq (Sr (Pe Y (Cb (Cl (λm_ ac w'=>∃(k:Nat),(k<=s.size)/\(∀i,i<k->M8 (sB s i)=true)/\m_=s.size-k/\Fits ac 27 [(0,(.string s)),(3,(nv k))]/\St w ([]) w') ?_ ?_)))))))
 ·refine λac w' hf hs=>⟨_,0,?_,?_,Y,hf.wk Y,hs⟩
  ·omega
  ·intro i hi;omega
 ·rintro m_ ac w' ⟨k,hk,hi,rfl,hf,hs⟩;refine D.use ?_ hf hs;clear hf hs ac w';refine Cq (Sr (P2 Y Y (q1 Y (FZ F5 Y Y) (Pe Y (Cd Y (λa=>?_) (λa=>?_))))))
  ·refine Sk (Cq (Cb (Sr (P2 Y Y (q1 Y (HL (j:=k) F5 Y Y Y Y (by omega)) (q1 Y (oN LO ⟨_,VL⟩ Y Y) (qv B4A Y (λw' hs=>E7) (P2 Y Y (JQ 16 Y Y (λb=>?_) (λb=>?_))))))))))
   ·refine P2 Y Y (q1 Y (HL (j:=k) F5 Y Y Y Y (by omega)) (q1 Y (oN LO ⟨_,VL⟩ Y Y) (qv B4A Y (λw' hs=>E7) (P2 Y Y (Dx (AH [0,3,23] Y (CN Y (λc=>?_) (λc=>?_))))))))
    ·refine Sr (Pe Y (Ct (Xq (Xr (Xr (Xq (Xr (Rb Y Y ?_))))))));exact S8 (k:=k) (by omega) (by unfold M8;simp_all)
    ·refine Ck (Xb (Xt (Cr (p1 Y (ad (k+1) Y (Pe Y (λac w' hf hs=>⟨_,?_,k+1,?_,?_,Y,hf.wk Y,hs⟩)))))))
     ·omega
     ·omega
     ·exact AF hi (by unfold M8;simp_all)
   ·refine n1 Y (n1 Y (n1 Y (n1 Y (n1 Y (n1 Y (Pe Y (AH [0,3,23] Y (G7 Y (Ck (Xb (Xt (Cr (p1 Y (ad (k+1) Y (Pe Y (λac w' hf hs=>⟨_,?_,k+1,?_,?_,Y,hf.wk Y,hs⟩))))))))))))))))
    ·omega
    ·omega
    ·exact AF hi (by unfold M8;simp_all)
  ·refine Cx (Xx (Xx (Xe (Xt (Sr (p1 Y (q1 Y (FZ F5 Y Y) (qv B4A Y (λw' hs=>E7) (Pe Y (Ct (Rb Y Y ?_)))))))))));show((GO ((s.size:Nat):Int) 1 8):Bool)=_;exact A1g (λi h=>hi i (by omega))
theorem EB{w:World}{s:ByteArray}(a:s.size<=9223372036854775807):Cy 136 [(.string s)] w (Val w (.bool (FK s))):=by
 refine enter 11 Tryz.func136 Y Y Y (Sr (Pe Y (Sr (p1 Y (qv A0R Y (λw' hs=>(FD ‹_›)) (p1 Y (gs 5 Y Y (λh1=>?_) (λh1=>?_))))))))
 ·refine p1 Y ?_;have hsz:=IV (s:=s) ‹_›;refine q1 Y (HL (j:=0) F5 Y Y Y Y (by omega)) (q1 Y (oN LO ⟨_,VL⟩ Y Y) (qv B4A Y (λw' hs=>E7) (P2 Y Y (Dx (Ct (Rb Y Y ?_))))));show((GO (sB s 0) 97 122):Bool)=_;unfold FK;rw[A1h ‹_›];simp_all
 ·refine n1 Y (n1 Y (n1 Y (n1 Y (P2 Y Y (Dx (Ct (Rb Y Y ?_)))))));unfold FK;simp_all
theorem ER{w:World}{d:List Value}{f:Fact}(g:Gd.rd w d f)(e:P9 f):Cy 135 [(.agg d.toArray)] w (Val w (.bool (BI f))):=by
 obtain⟨t,rfl,a⟩:=AS g;have u:=rM a;refine enter 27 Tryz.func135 Y Y Y (Sr (bX Y λg4=>?_));refine Pe Y (Dh ([bx g4 [(.string f.Rel),t]]) Y (Cq (Sr (Pe Y (Cb (Cl (λm_ ac w'=>∃(k:Nat),(k<=f.Args.length)/\(∀i,i<k->∀y,f.Args[i]?=some y->BA y=true)/\m_=f.Args.length-k/\Fits ac 27 [(1,(pv g4)),(3,(nv k))]/\St w ([bx g4 [(.string f.Rel),t]]) w') ?_ ?_))))))
 ·refine λac w' hf hs=>⟨_,0,?_,?_,Y,hf.wk Y,hs⟩
  ·omega
  ·intro i hi;omega
 ·rintro m_ ac w' ⟨k,hk,hi,rfl,hf,hs⟩;refine D.use ?_ hf hs;clear hf hs ac w';refine Cq (Sr (p1 Y (fl 0 C4L C4Q Y (dl C4D Y (AE a) (Pe Y (Cd Y (λm=>?_) (λm=>?_)))))))
  ·refine Sk (Cq (Cb (Sr (fl 0 C4L C4Q Y (p1 Y ?_)))));obtain⟨a0,b⟩:=sI f.Args k;have v:a0.size<=9223372036854775807:=e.2 _ (List.mem_of_getElem? b);obtain⟨o,q,r⟩:=AC (n:=1) rfl a b;obtain rfl:o=[.string a0]:=r;refine q1 Y (AJ (l:=f.Args) (j:=k) C4D Y Y Y (λw' hs=>(rA hs a)) Y (lS b)) (q1 Y (HI BK Y Y q Y) (qv A0R Y (λw' hs=>(FD ‹_›)) (Pe Y (CN Y (λc=>?_) (λc=>?_)))))
   ·refine Sr (Pe Y (Ct (Xq (Xr (Xr (Xq (Xr (Rb Y Y ?_))))))));unfold BI;rw[S6 (p:=BA) b c];simp
   ·refine Ck (Xb (Xt (Cr (p1 Y (ad (k+1) Y (Pe Y (λac w' hf hs=>⟨_,?_,k+1,?_,?_,Y,hf.wk Y,hs⟩)))))))
    ·omega
    ·omega
    ·refine AF hi ?_;intro y hy;obtain rfl:y=a0:=Option.some.inj (hy.symm.trans b);exact c
  ·refine Cx (Xx (Xx (Xe (Xt (Sr (fl 0 B5C BK Y (qv A4y Y (λw' hs=>(EB e.1)) (p1 Y (gs 21 Y Y (λs=>?_) (λs=>?_))))))))))
   ·refine fl 0 C4L C4Q Y (dl C4D Y (AE a) (P3 Y Y Y (Dx (Ct (Rb Y Y ?_)))));show((decide ((((f.Args.length:Nat):Int):Int)<=3)):Bool)=_;unfold BI;rw[IN (p:=BA) (λi h=>hi i (by omega))];simp_all;try omega
   ·refine n1 Y (n1 Y (n1 Y (n1 Y (P2 Y Y (Dx (Ct (Rb Y Y ?_)))))));unfold BI;rw[IN (p:=BA) (λi h=>hi i (by omega))];simp_all;try omega
end Go.Sy.Ev1
end
/-
  Engines and their parts: sizes and bounds.
  Conditions: none.
-/
section
namespace Go.Sy
def DD{α:Type}(c:α->Nat)(l:List α):Nat:=l.length+AI c l
def LR{α:Type}(p:α->Prop)(l:List α):Prop:=∀x∈l,p x
theorem C8{α:Type}{c:α->Nat}{l:List α}{x:α}(h:x∈l):c x<=AI c l:=VO (List.mem_map_of_mem h)
def E8(p:Pattern):Nat:=p.Rel.size+M9 p.Args
def IP(p:Pattern):Prop:=VP p.Rel/\A1i p.Args
def BW(x:Cond):Nat:=E8 x.Pattern+x.Left.size+x.Right.size
def LB(x:Cond):Prop:=okI x.Kind/\IP x.Pattern/\VP x.Left/\VP x.Right
def CV(x:Action):Nat:=E8 x.Pattern
def QB(x:Action):Prop:=okI x.Kind/\IP x.Pattern
def BG(r:Rule):Nat:=r.Name.size+DD BW r.If+DD CV r.Then
def H9(r:Rule):Prop:=VP r.Name/\okI r.Priority/\LR LB r.If/\LR QB r.Then
def CM(s:Stamp):Nat:=F9 s.Fact
def MA(s:Stamp):Prop:=P9 s.Fact/\okI s.Time
end Go.Sy
end
