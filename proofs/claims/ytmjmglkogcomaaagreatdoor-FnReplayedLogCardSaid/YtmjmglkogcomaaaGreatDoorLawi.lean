/-
  Texts joined; facts and events written out.
  Conditions: those that each theorem states.
-/
import Derived.Lib.Join
import Derived.Test.YtmjmglkogcomaaaGreatDoorDrw4
import Derived.Test.YtmjmglkogcomaaaGreatDoorMat7
section
namespace Go.Sy
open Go
theorem C7q{a b:ByteArray}(h:a.data.toList=b.data.toList):a=b:=by
 cases a;cases b
 simp only at h
 congr 1
 exact Array.toList_inj.1 h
theorem C7L(a b:ByteArray):(a++b).data.toList=a.data.toList++b.data.toList:=by
 rw[ByteArray.data_append];simp
theorem C8B(a:ByteArray):a.size=a.data.toList.length:=by rw[Array.length_toList];rfl
def C5Z(l:List ByteArray)(sep:ByteArray):ByteArray:=⟨(Lib.join (l.map (·.data.toList)) sep.data.toList).toArray⟩
theorem C7Y(xs:List (List UInt8))(x sep:List UInt8)(h:xs≠ []):Lib.join (xs++ [x]) sep=Lib.join xs sep++sep++x:=by
 cases xs with
 |nil=>exact absurd rfl h
 | cons y r=>
  have key:∀(y:List UInt8) (r:List (List UInt8)),Lib.join (y::r) sep=y++Lib.joinTail sep r:=λy r=>by
   induction r generalizing y with
   |nil=>simp[Lib.join_one,Lib.joinTail]
   | cons z r ih=>
    have e:Lib.join (y::z::r) sep=y++sep++Lib.join (z::r) sep:=by
     simp[Lib.join,List.intercalate,List.intersperse]
    rw[e,ih];simp[Lib.joinTail]
  rw[List.cons_append,key,key];simp[Lib.joinTail]
theorem C7Z(sep:ByteArray):(⟨#[]⟩:ByteArray)=C5Z [] sep:=rfl
theorem C7a(x sep:ByteArray):(⟨#[]⟩:ByteArray)++x=C5Z [x] sep:=by
 apply C7q
 rw[C7L];simp[C5Z,Lib.join_one]
theorem C7M{l:List ByteArray}{x sep:ByteArray}(h:l≠ []):C5Z l sep++sep++x=C5Z (l++ [x]) sep:=by
 apply C7q
 rw[C7L,C7L];simp only[C5Z,List.map_append,List.map_cons,List.map_nil];rw[C7Y _ _ _ (by simpa using h)]
theorem C6H{l:List ByteArray}{x sep s:ByteArray}{k:Nat}(hk:¬0<k)(a:l[k]?=some x)(b:s=C5Z (l.take k) sep):s++x=C5Z (l.take (k+1)) sep:=by
 have:k=0:=by omega
 subst this;rw[A1 a,b,List.take_zero];exact C7a x sep
theorem C6O{l:List ByteArray}{x sep s:ByteArray}{k:Nat}(hk:0<k)(a:l[k]?=some x)(b:s=C5Z (l.take k) sep):s++sep++x=C5Z (l.take (k+1)) sep:=by
 rw[A1 a,b];refine C7M (λe=>?_);have c:=lS a;have:=congrArg List.length e;rw[List.length_take,List.length_nil] at this;omega
theorem C7D(l:List ByteArray)(sep:ByteArray):(C5Z l sep).size<=(l.map (·.size)).sum+l.length*sep.size:=by
 have key:∀k,(C5Z (l.take k) sep).size<=((l.take k).map (·.size)).sum+(l.take k).length*sep.size:=by
  intro k
  induction k with
  | zero=>
   rw[List.take_zero,<-C7Z];exact Nat.zero_le _
  | succ k ih=>
   by_cases hk:k<l.length
   ·obtain⟨x,a⟩:=sL hk;have hl:(l.take (k+1)).length=(l.take k).length+1:=by rw[A1 a];simp
    rw[W3 a,hl,Nat.add_mul]
    by_cases h0:0<k
    ·rw[<-C6O h0 a rfl,ByteArray.size_append,ByteArray.size_append];omega
    ·rw[<-C6H h0 a rfl,ByteArray.size_append];omega
   ·have e:l.take (k+1)=l.take k:=by rw[List.take_of_length_le (by omega),List.take_of_length_le (by omega)]
    rw[e];exact ih
 have:=key l.length
 rwa [List.take_of_length_le (Nat.le_refl _)] at this
theorem C7r(l:List ByteArray)(sep:ByteArray)(k:Nat):(C5Z (l.take k) sep).size<=((l.take k).map (·.size)).sum+k*sep.size:=by
 have h:=C7D (l.take k) sep;have:(l.take k).length*sep.size<=k*sep.size:=Nat.mul_le_mul_right _ (by rw[List.length_take];omega);omega
def C5x(f:C1G):ByteArray:=if BI f=true then f.p5++⟨#[40]⟩++C5Z f.a ⟨#[44]⟩++⟨#[41]⟩ else⟨#[]⟩
theorem C7N{f:C1G}(h:BI f=false):(⟨#[]⟩:ByteArray)=C5x f:=by unfold C5x;rw[h];rfl
theorem C6n{f:C1G}(h:BI f=true):f.p5++⟨#[40]⟩++C5Z f.a ⟨#[44]⟩++⟨#[41]⟩=C5x f:=by unfold C5x;rw[if_pos h]
theorem C9W{l:List ByteArray}(h:∀x∈l,x.size<=8):(l.map (·.size)).sum<=l.length*8:=by
 induction l with
 |nil=>simp
 | cons x l ih=>
  have h1:=h x (by simp);have b:=ih (λy a=>h y (by simp[a]));simp only[List.map_cons,List.sum_cons,List.length_cons];omega
theorem C6x{f:C1G}(h:BI f=true):f.p5.size<=8/\f.a.length<=3/\(C5Z f.a ⟨#[44]⟩).size<=27:=by
 simp only[BI,Bool.and_eq_true,decide_eq_true_eq,List.all_eq_true] at h;obtain⟨⟨h1,b⟩,c⟩:=h;have d:BA f.p5=true:=by unfold FK at h1;simp only[Bool.and_eq_true] at h1;exact h1.1
 have e:=IV d;have g:=C7D f.a ⟨#[44]⟩;have k:=C9W (l:=f.a) (λx j=>(IV (c x j)).2);have i:(⟨#[44]⟩:ByteArray).size=1:=rfl;rw[i] at g;exact⟨e.2,b,by omega⟩
theorem C7E{f:C1G}(h:BI f=true):(f.a.map (·.size)).sum<=24:=by
 simp only[BI,Bool.and_eq_true,decide_eq_true_eq,List.all_eq_true] at h;have c:=C9W (l:=f.a) (λx b=>(IV (h.2 x b)).2);have:=h.1.2;omega
theorem C7W(f:C1G):(C5x f).size<=37:=by
 cases h:BI f with
 |false=>rw[<-C7N h];show 0<=37;omega
 | true=>
  have h1:=C6x h;rw[<-C6n h,ByteArray.size_append,ByteArray.size_append,ByteArray.size_append];have a:(⟨#[40]⟩:ByteArray).size=1:=rfl;have b:(⟨#[41]⟩:ByteArray).size=1:=rfl;omega
def C6J(x:C1K):ByteArray:=
 if AN x=true then
  if x.s=1 then⟨#[112,117,116,32]⟩++C5x x.j
  else if x.s=2 then⟨#[116,97,107,101,32]⟩++C5x x.j
  else if x.s=3 then⟨#[102,105,114,101,32]⟩++x.p7
  else if x.s=4 then⟨#[97,100,100,32]⟩++C5x x.j++⟨#[32,98,121,32]⟩++x.p7
  else if x.s=5 then⟨#[100,114,111,112,32]⟩++C5x x.j++⟨#[32,98,121,32]⟩++x.p7
  else⟨#[115,116,111,112,32,98,121,32]⟩++x.p7
 else⟨#[]⟩
theorem C8C{x:C1K}(h:AN x=false):(⟨#[]⟩:ByteArray)=C6J x:=by unfold C6J;rw[h];rfl
theorem C6V{x:C1K}(h:AN x=true)(hk:x.s=1):⟨#[112,117,116,32]⟩++C5x x.j=C6J x:=by unfold C6J;rw[if_pos h,if_pos hk]
theorem C6W{x:C1K}(h:AN x=true)(hk:x.s=2):⟨#[116,97,107,101,32]⟩++C5x x.j=C6J x:=by unfold C6J;rw[if_pos h,if_neg (by omega),if_pos hk]
theorem C6X{x:C1K}(h:AN x=true)(hk:x.s=3):⟨#[102,105,114,101,32]⟩++x.p7=C6J x:=by unfold C6J;rw[if_pos h,if_neg (by omega),if_neg (by omega),if_pos hk]
theorem C6Y{x:C1K}(h:AN x=true)(hk:x.s=4):⟨#[97,100,100,32]⟩++C5x x.j++⟨#[32,98,121,32]⟩++x.p7=C6J x:=by unfold C6J;rw[if_pos h,if_neg (by omega),if_neg (by omega),if_neg (by omega),if_pos hk]
theorem C6Z{x:C1K}(h:AN x=true)(hk:x.s=5):⟨#[100,114,111,112,32]⟩++C5x x.j++⟨#[32,98,121,32]⟩++x.p7=C6J x:=by unfold C6J;rw[if_pos h,if_neg (by omega),if_neg (by omega),if_neg (by omega),if_neg (by omega),if_pos hk]
theorem C6a{x:C1K}(h:AN x=true)(hk:x.s≠1/\x.s≠2/\x.s≠3/\x.s≠4/\x.s≠5):⟨#[115,116,111,112,32,98,121,32]⟩++x.p7=C6J x:=by
 unfold C6J;rw[if_pos h,if_neg (by omega),if_neg (by omega),if_neg (by omega),if_neg (by omega),if_neg (by omega)]
theorem C7X{x:C1K}(h:AN x=true)(h1:x.s≠1)(b:x.s≠2):x.p7.size<=8:=by
 unfold AN at h;rw[if_neg (by omega)] at h;have a:FK x.p7=true:=by
  split at h
  ·simp only[Bool.and_eq_true] at h;exact h.1
  ·split at h
   ·simp only[Bool.and_eq_true] at h;exact h.1
   ·cases h
 unfold FK at a;simp only[Bool.and_eq_true] at a;exact(IV a.1).2
theorem C7s{w:World}{v:Value}{l:List ByteArray} [Tid ByteArray](h:Gd.rd w [v] l)(hp:0<l.length):∃bk o c,v= .slice (some ⟨bk,o,none⟩) l.length c/\l.length<=c/\bk<w.heap.size/\∀(j:Nat) x,l[j]?=some x->w.cell? ⟨bk,o+j,none⟩=some (.string x):=by
 obtain⟨a,cap,e,⟨h1,s⟩,k⟩:=h;simp only[List.cons.injEq,and_true] at e;subst e;obtain⟨y,p⟩:=sL hp;obtain⟨ad,es,f,g,i⟩:=k 0 y p;have b:es=[.string y]:=i;subst b;subst f;have h0:=g 0 (.string y) rfl;have m:ad.add (0*Gd.n ByteArray+0)=ad:=by simp[Addr.add]
 rw[m] at h0;have d:ad.spot=none:=by
  unfold World.cell? at h0
  cases hs:ad.spot with
  |none=>rfl
  | some q=>
   rw[hs] at h0
   split at h0<;>simp at h0
 obtain⟨bk,o,t⟩:=ad;simp only at d;subst d;refine⟨bk,o,cap,rfl,h1,lt_of_cell h0,λj x r=>?_⟩;obtain⟨ad,es,f,g,i⟩:=k j x r;have b:es=[.string x]:=i;subst b;simp only[Option.some.injEq] at f;subst f;have:=g 0 (.string x) rfl;rw[E9] at this;have e:o+(j*Gd.n ByteArray+0)=o+j:=by
  have:Gd.n ByteArray=1:=rfl;rw[this];omega
 rw[e] at this;exact this
end Go.Sy
end
/-
  Contracts of functions of the program, walked (printed by a program of ours).
  Conditions: those that each theorem states.
-/
section
set_option linter.unusedVariables false
set_option maxRecDepth 20000
namespace Go.Sy.Fmt2
open Go Go.RowKit Go.Proofs Go.Sy
open Go.Sy.Bel1 Go.Sy.Ev1
theorem C6o(w:World)(b:Value)(l:List ByteArray)(sep:ByteArray)(d:Gd.rd w [b] l)(f:l.length<=1048576/\(C5Z l sep).size<=140737488355328):Cy 148 [b,Value.string sep] w (Val w (.string (C5Z l sep))):=by
 by_cases hp:0<l.length
 ·obtain⟨bk,o,c,rfl,h1,g,h⟩:=C7s d hp;refine(Tryz.strings_Join bk o c l sep w h g (by omega) h1 ?_).mono λe w' ⟨he,hb⟩=>⟨he,hb⟩
  have:=f.2;rw[C8B] at this;simpa [C5Z] using this
 ·have:l=[]:=List.eq_nil_of_length_eq_zero (by omega);subst this;obtain⟨a,c,e,_⟩:=d;simp only[List.cons.injEq,and_true] at e;subst e;exact(Tryz.strings_Join_none a c sep w).mono λe w' ⟨he,hw⟩=>⟨he,hw▸Ex.refl w⟩
theorem C7b{w:World}{a:Value}{l:(List ByteArray)}{sep:ByteArray}(b:Gd.rd w [a] l)(e:l.length<=1048576/\(C5Z l sep).size<=140737488355328):Cy 108 [a,(.string sep)] w (Val w (.string (C5Z l sep))):=by
 have c:=rM b;refine enter 8 Tryz.func108 Y Y Y<|Sr<|Pe Y<|Sr<|P2 Y Y<|qv A4b Y (λw' d=>C6o w' a l sep (rA d b) ‹_›)<|Pe Y<|Ct<|Rs Y Y ?_;show((C5Z l sep):ByteArray)=_;rfl
theorem C7c{w:World}{f:Value}{l:(List ByteArray)}{sep:ByteArray}(b:Gd.rd w [f] l)(hj:l.length<=1048576/\(l.map (·.size)).sum<=1048576/\sep.size<=1048576):Cy 109 [f,(.string sep)] w (Val w (.string (C5Z l sep))):=by
 have x:=rM b;refine enter 25 Tryz.func109 Y Y Y<|Sr<|Pe Y<|Sr<|Pe Y<|Cq<|Sr<|Pe Y<|Cb<|Cl (λv g w'=>∃(k:Nat),∃(s:ByteArray),(k<=l.length)/\(s=C5Z (l.take k) sep)/\v=l.length-k/\Fits g 25 [(0,f),(1,.string sep),(5,.string s),(6,nv k)]/\St w ([]) w') ?_ ?_
 ·refine λg w' e c=>⟨_,0,⟨#[]⟩,?_,?_,Y,e.wk Y,c⟩
  ·omega
  ·rfl
 ·rintro v g w' ⟨k,s,hk,d,rfl,e,c⟩;refine D.use ?_ e c;clear e c g w';have y:=C7r l sep k;rw[<-d] at y;have z:=QA l k;have a0:k*sep.size<=1048576*1048576:=Nat.mul_le_mul (by omega) (by omega);refine Cq<|Sr<|P2 Y Y<|dl HJ Y (AE b)<|Pe Y<|Cd Y (λi=>?_) λi=>?_
  ·refine Sk<|Cq<|Cb<|Cq<|Sr<|PE 2 Y<|Cd Y (λm=>?_) λm=>?_
   ·refine Cr<|P2 Y Y<|q1 Y (aQ Y Y Y (by omega))<|Pe Y<|Cr<|P3 Y Y Y ?_;obtain⟨h,a⟩:=sI l k;have t:=C7B (List.mem_of_getElem? a);obtain⟨o,at5,p⟩:=AC (n:=1) rfl b a;obtain rfl:o=[.string h]:=p;refine q1 Y (AJ (l:=l) (j:=k) HJ Y Y Y (λw' c=>rA c b) Y<|lS a)<|q1 Y (HI BK Y Y at5 Y)<|q1 Y (aQ Y Y Y (by simp only[ByteArray.size_append];omega))<|p1 Y<|De<|Xb<|Xt<|AH [0,1,5,6] Y<|Cr<|p1 Y<|ad (k+1) Y<|Pe Y λg w' e c=>⟨_,?_,k+1,((s++sep)++h),?_,?_,Y,e.wk Y,c⟩
    ·omega
    ·omega
    ·exact C6O (by omega) a d
   ·refine Sk<|Cr<|P3 Y Y Y ?_;obtain⟨h,a⟩:=sI l k;have t:=C7B (List.mem_of_getElem? a);obtain⟨q,u,r⟩:=AC (n:=1) rfl b a;obtain rfl:q=[.string h]:=r;refine q1 Y (AJ (l:=l) (j:=k) HJ Y Y Y (λw' c=>rA c b) Y<|lS a)<|q1 Y (HI BK Y Y u Y)<|q1 Y (aQ Y Y Y (by omega))<|p1 Y<|De<|Xb<|Xt<|Cr<|p1 Y<|ad (k+1) Y<|Pe Y λg w' e c=>⟨_,?_,k+1,(s++h),?_,?_,Y,e.wk Y,c⟩
    ·omega
    ·omega
    ·exact C6H (by omega) a d
  ·refine Cx<|Xx<|Xx<|Xe<|Xt<|Sr<|PE 2 Y<|Ct<|Rs Y Y ?_;show(s:ByteArray)=_;rw[d,List.take_of_length_le (by omega)]
theorem C6b{w:World}{b:List Value}{f:C1G}(c:Gd.rd w b f):Cy 67 [(.agg b.toArray)] w (Val w (.string (C5x f))):=by
 obtain⟨h,rfl,d⟩:=AS c;have i:=rM d;have j:(⟨#[40]⟩:ByteArray).size=1:=rfl;have k:(⟨#[41]⟩:ByteArray).size=1:=rfl;have l:(⟨#[44]⟩:ByteArray).size=1:=rfl;refine enter 14 Tryz.func67 Y Y Y<|Sr (bX Y λo=>?_);refine Pe Y<|Dh [bx o [.string f.p5,h]] Y<|Cq<|Sr<|q1 Y (C9 0 C4N Y Y Y)<|qv A6Y Y (λw' g=>EQ<|rA g c)<|Pe Y<|CN Y (λe=>?_) λe=>?_
 ·refine Sr<|Pe Y<|Ct<|Xr<|Rs Y Y ?_;show(⟨#[]⟩:ByteArray)=_;exact C7N e
 ·refine Sk<|Cq ?_;have n:=C6x (f:=f) ‹_›;have m:=C7E (f:=f) ‹_›;refine A0 mixed [] (by kernel_rfl)<|Tk 0 Y Y (Db C5V Y Y (q:=0) Y)<|Tk 1 Y Y (lb 0 BK Y Y Y Y)<|Tk 2 Y Y (aQ Y Y Y (by omega))<|Tk 3 Y Y (Db C4Q Y Y (q:=1) Y)<|Tk 4 Y Y (lb 0 VN Y Y Y Y)<|ty 5 Y Y<|cv A4u Y Y Y Y (λw' g=>C7b (rA g d) (by omega)) ?_;refine tS (λ_ g=>g)<|Tk 6 Y Y (aQ Y Y Y (by simp only[ByteArray.size_append];omega))<|Tk 7 Y Y (aQ Y Y Y (by simp only[ByteArray.size_append];omega))<|tR 8 Y Y<|tE<|Xt<|Ct<|Rs Y Y ?_;show((((f.p5++⟨#[40]⟩)++(C5Z f.a ⟨#[44]⟩))++⟨#[41]⟩):ByteArray)=_;exact C6n ‹_›
theorem C5j{w:World}{b:List Value}{f:C1G}(c:Gd.rd w b f)(h:P9 f):Cy 68 [(.agg b.toArray)] w (Val w (.string (C5x f))):=by
 obtain⟨i,rfl,d⟩:=AS c;have j:=rM d;have k:(⟨#[40]⟩:ByteArray).size=1:=rfl;have l:(⟨#[41]⟩:ByteArray).size=1:=rfl;have m:(⟨#[44]⟩:ByteArray).size=1:=rfl;refine enter 14 Tryz.func68 Y Y Y<|Sr (bX Y λp=>?_);refine Pe Y<|Dh [bx p [.string f.p5,i]] Y<|Cq<|Sr<|q1 Y (C9 0 C4N Y Y Y)<|qv B3s Y (λw' g=>ER (rA g c) h)<|Pe Y<|CN Y (λe=>?_) λe=>?_
 ·refine Sr<|Pe Y<|Ct<|Xr<|Rs Y Y ?_;show(⟨#[]⟩:ByteArray)=_;exact C7N e
 ·refine Sk<|Cq ?_;have o:=C6x (f:=f) ‹_›;have n:=C7E (f:=f) ‹_›;refine A0 mixed [] (by kernel_rfl)<|Tk 0 Y Y (Db C5V Y Y (q:=0) Y)<|Tk 1 Y Y (lb 0 BK Y Y Y Y)<|Tk 2 Y Y (aQ Y Y Y (by omega))<|Tk 3 Y Y (Db C4Q Y Y (q:=1) Y)<|Tk 4 Y Y (lb 0 VN Y Y Y Y)<|ty 5 Y Y<|cv A0L Y Y Y Y (λw' g=>C7c (rA g d) (by omega)) ?_;refine tS (λ_ g=>g)<|Tk 6 Y Y (aQ Y Y Y (by simp only[ByteArray.size_append];omega))<|Tk 7 Y Y (aQ Y Y Y (by simp only[ByteArray.size_append];omega))<|tR 8 Y Y<|tE<|Xt<|Ct<|Rs Y Y ?_;show((((f.p5++⟨#[40]⟩)++(C5Z f.a ⟨#[44]⟩))++⟨#[41]⟩):ByteArray)=_;exact C6n ‹_›
theorem C6S{w:World}{c:List Value}{x:C1K}(b:Gd.rd w c x):Cy 29 [(.agg c.toArray)] w (Val w (.string (C6J x))):=by
 obtain⟨n,rfl,g⟩:=D2 b;have o:=rM g;have h:=CC b;have p:(⟨#[112,117,116,32]⟩:ByteArray).size=4:=rfl;have r:(⟨#[116,97,107,101,32]⟩:ByteArray).size=5:=rfl;have t:(⟨#[102,105,114,101,32]⟩:ByteArray).size=5:=rfl;have u:(⟨#[97,100,100,32]⟩:ByteArray).size=4:=rfl;have v:(⟨#[100,114,111,112,32]⟩:ByteArray).size=5:=rfl;have y:(⟨#[32,98,121,32]⟩:ByteArray).size=4:=rfl;have z:(⟨#[115,116,111,112,32,98,121,32]⟩:ByteArray).size=8:=rfl;have a1:=C7W x.j;refine enter 44 Tryz.func29 Y Y Y<|Sr (bX Y λg5=>?_);refine Pe Y<|Dh [bx g5 [iv x.s,.string x.p7,.string x.j.p5,n]] Y<|Cq<|Sr<|q1 Y (C9 0 C2U Y Y Y)<|qv A4E Y (λw' m=>YV<|rA m b)<|Pe Y<|CN Y (λd=>?_) λd=>?_
 ·refine Sr<|Pe Y<|Ct<|Xr<|Rs Y Y ?_;show(⟨#[]⟩:ByteArray)=_;exact C8C d
 ·refine Sk<|Cq ?_;have a:AN x=true:=by assumption
  have a0:=C7X a;refine Cr<|q1 Y (Db C1S Y Y (q:=2) Y)<|q1 Y (H2 (es:=[.string x.j.p5,n]) 0 C4N Y Y Y Y)<|qv B4A Y (λw' m=>C6b<|rA m h)<|Pe Y<|Cq<|Sr<|fl 0 C1y CJ Y<|Dx<|Cb<|Sr<|PE 2 Y<|Ce Y (λi=>?_) λi=>?_
  ·refine Sr<|p1 Y<|q1 Y (aQ Y Y Y (by omega))<|Pe Y<|Ct<|Xq<|Xr<|Rs Y Y ?_;show((⟨#[112,117,116,32]⟩++(C5x x.j)):ByteArray)=_;exact C6V a (by omega)
  ·refine Sr<|PE 2 Y<|Ce Y (λk=>?_) λk=>?_
   ·refine Sr<|p1 Y<|q1 Y (aQ Y Y Y (by omega))<|Pe Y<|Ct<|Xq<|Xr<|Rs Y Y ?_;show((⟨#[116,97,107,101,32]⟩++(C5x x.j)):ByteArray)=_;exact C6W a (by omega)
   ·refine Sr<|PE 2 Y<|Ce Y (λl=>?_) λl=>?_
    ·refine Sr<|fl 0 C1W BK Y<|q1 Y (aQ Y Y Y (by omega))<|Pe Y<|Ct<|Xq<|Xr<|Rs Y Y ?_;show((⟨#[102,105,114,101,32]⟩++x.p7):ByteArray)=_;exact C6X a (by omega)
    ·refine Sr<|PE 2 Y<|AH [1,3,11,25] Y<|Ce Y (λe=>?_) λe=>?_
     ·refine Sr<|p1 Y<|q1 Y (aQ Y Y Y (by omega))<|q1 Y (aQ Y Y Y (by simp only[ByteArray.size_append];omega))<|fl 0 C1W BK Y<|q1 Y (aQ Y Y Y (by simp only[ByteArray.size_append];omega))<|Pe Y<|Ct<|Xq<|Xr<|Rs Y Y ?_;show((((⟨#[97,100,100,32]⟩++(C5x x.j))++⟨#[32,98,121,32]⟩)++x.p7):ByteArray)=_;exact C6Y a (by omega)
     ·refine Sr<|PE 2 Y<|Ce Y (λf=>?_) λf=>?_
      ·refine Sr<|p1 Y<|q1 Y (aQ Y Y Y (by omega))<|q1 Y (aQ Y Y Y (by simp only[ByteArray.size_append];omega))<|fl 0 C1W BK Y<|q1 Y (aQ Y Y Y (by simp only[ByteArray.size_append];omega))<|Pe Y<|Ct<|Xq<|Xr<|Rs Y Y ?_;show((((⟨#[100,114,111,112,32]⟩++(C5x x.j))++⟨#[32,98,121,32]⟩)++x.p7):ByteArray)=_;exact C6Z a (by omega)
      ·refine Ck<|Xb<|Xt<|Sr<|fl 0 C1W BK Y<|q1 Y (aQ Y Y Y (by omega))<|Pe Y<|Ct<|Rs Y Y ?_;show((⟨#[115,116,111,112,32,98,121,32]⟩++x.p7):ByteArray)=_;exact C6a a (by omega)
theorem C6T{w:World}{f:List Value}{x:C1K}(e:Gd.rd w f x)(c:wK x):Cy 30 [(.agg f.toArray)] w (Val w (.string (C6J x))):=by
 obtain⟨g,rfl,l⟩:=D2 e;have p:=rM l;have d:=CC e;have r:(⟨#[112,117,116,32]⟩:ByteArray).size=4:=rfl;have t:(⟨#[116,97,107,101,32]⟩:ByteArray).size=5:=rfl;have u:(⟨#[102,105,114,101,32]⟩:ByteArray).size=5:=rfl;have v:(⟨#[97,100,100,32]⟩:ByteArray).size=4:=rfl;have y:(⟨#[100,114,111,112,32]⟩:ByteArray).size=5:=rfl;have z:(⟨#[32,98,121,32]⟩:ByteArray).size=4:=rfl;have a0:(⟨#[115,116,111,112,32,98,121,32]⟩:ByteArray).size=8:=rfl;have a2:=C7W x.j;refine enter 48 Tryz.func30 Y Y Y<|Sr (bX Y λg5=>?_);refine Pe Y<|Dh [bx g5 [iv x.s,.string x.p7,.string x.j.p5,g]] Y<|Cq<|Sr<|q1 Y (C9 0 C2U Y Y Y)<|qv A6h Y (λw' b=>YW (rA b e) c)<|Pe Y<|CN Y (λh=>?_) λh=>?_
 ·refine Sr<|Pe Y<|Ct<|Xr<|Rs Y Y ?_;show(⟨#[]⟩:ByteArray)=_;exact C8C h
 ·refine Sk<|Cq<|Cq ?_;have a:AN x=true:=by assumption
  have a1:=C7X a;refine Cr<|fl 0 C1y CJ Y<|Dx<|Cb<|Sr<|PE 2 Y<|Ce Y (λm=>?_) λm=>?_
  ·refine Sr<|q1 Y (Db C1S Y Y (q:=2) Y)<|q1 Y (H2 (es:=[.string x.j.p5,g]) 0 C4N Y Y Y Y)<|qv B4B Y (λw' b=>C5j (rA b d) c.2.2)<|q1 Y (aQ Y Y Y (by omega))<|Pe Y<|Ct<|Xq<|Xr<|Rs Y Y ?_;show((⟨#[112,117,116,32]⟩++(C5x x.j)):ByteArray)=_;exact C6V a (by omega)
  ·refine Sr<|PE 2 Y<|Ce Y (λn=>?_) λn=>?_
   ·refine Sr<|q1 Y (Db C1S Y Y (q:=2) Y)<|q1 Y (H2 (es:=[.string x.j.p5,g]) 0 C4N Y Y Y Y)<|qv B4B Y (λw' b=>C5j (rA b d) c.2.2)<|q1 Y (aQ Y Y Y (by omega))<|Pe Y<|Ct<|Xq<|Xr<|Rs Y Y ?_;show((⟨#[116,97,107,101,32]⟩++(C5x x.j)):ByteArray)=_;exact C6W a (by omega)
   ·refine Sr<|PE 2 Y<|Ce Y (λo=>?_) λo=>?_
    ·refine Sr<|fl 0 C1W BK Y<|q1 Y (aQ Y Y Y (by omega))<|Pe Y<|Ct<|Xq<|Xr<|Rs Y Y ?_;show((⟨#[102,105,114,101,32]⟩++x.p7):ByteArray)=_;exact C6X a (by omega)
    ·refine Sr<|PE 2 Y<|Ce Y (λi=>?_) λi=>?_
     ·refine Cq<|A0 mixed [] (by kernel_rfl)<|Tk 0 Y Y (Db C1S Y Y (q:=2) Y)<|Tk 1 Y Y (H2 (es:=[.string x.j.p5,g]) 0 C4N Y Y Y Y)<|Tk 5 Y Y (Db C1W Y Y (q:=1) Y)<|Tk 6 Y Y (lb 0 BK Y Y Y Y)<|ty 2 Y Y<|cv B4B Y Y Y Y (λw' b=>C5j (rA b d) c.2.2) ?_;refine tS (λ_ b=>b)<|Tk 3 Y Y (aQ Y Y Y (by omega))<|Tk 4 Y Y (aQ Y Y Y (by simp only[ByteArray.size_append];omega))<|Tk 7 Y Y (aQ Y Y Y (by simp only[ByteArray.size_append];omega))<|tR 8 Y Y<|tE<|Xt<|Ct<|Xq<|Xr<|Rs Y Y ?_;show((((⟨#[97,100,100,32]⟩++(C5x x.j))++⟨#[32,98,121,32]⟩)++x.p7):ByteArray)=_;exact C6Y a (by omega)
     ·refine Sr<|PE 2 Y<|AH [1,35] Y<|Ce Y (λk=>?_) λk=>?_
      ·refine Cq<|A0 mixed [] (by kernel_rfl)<|Tk 0 Y Y (Db C1S Y Y (q:=2) Y)<|Tk 1 Y Y (H2 (es:=[.string x.j.p5,g]) 0 C4N Y Y Y Y)<|Tk 5 Y Y (Db C1W Y Y (q:=1) Y)<|Tk 6 Y Y (lb 0 BK Y Y Y Y)<|ty 2 Y Y<|cv B4B Y Y Y Y (λw' b=>C5j (rA b d) c.2.2) ?_;refine tS (λ_ b=>b)<|Tk 3 Y Y (aQ Y Y Y (by omega))<|Tk 4 Y Y (aQ Y Y Y (by simp only[ByteArray.size_append];omega))<|Tk 7 Y Y (aQ Y Y Y (by simp only[ByteArray.size_append];omega))<|tR 8 Y Y<|tE<|Xt<|Ct<|Xq<|Xr<|Rs Y Y ?_;show((((⟨#[100,114,111,112,32]⟩++(C5x x.j))++⟨#[32,98,121,32]⟩)++x.p7):ByteArray)=_;exact C6Z a (by omega)
      ·refine Ck<|Xb<|Xt<|Sr<|fl 0 C1W BK Y<|q1 Y (aQ Y Y Y (by omega))<|Pe Y<|Ct<|Rs Y Y ?_;show((⟨#[115,116,111,112,32,98,121,32]⟩++x.p7):ByteArray)=_;exact C6a a (by omega)
end Go.Sy.Fmt2
end
/-
  Drawn results become borrowed: a new base world.
  Conditions: none.
-/
section
namespace Go.Sy
open Go Go.RowKit
section
variable {P:Program} {N:Nat} {w0:World} {H:List Chunk} {L:Fm} {Q:Exit->Act->World->Prop} {o:Oper} {d:Nat} {K:Act->World->Prop}
end
end Go.Sy
end
/-
  Lists of several flat elements, parts of owned lists, results that are only readable.
  Conditions: none.
-/
section
namespace Go.Sy
open Go Go.RowKit
section
variable {P:Program} {N:Nat} {w0:World} {H:List Chunk} {L:Fm} {Q:Exit->Act->World->Prop} {o:Oper} {d:Nat} {K:Act->World->Prop}
end
end Go.Sy
end
/-
  Contracts of functions of the program, walked (printed by a program of ours).
  Conditions: those that each theorem states.
-/
section
set_option linter.unusedVariables false
set_option maxRecDepth 20000
namespace Go.Sy.Lawi
open Go Go.RowKit Go.Proofs Go.Sy
open Go.Sy.Bel1 Go.Sy.Ev1 Go.Sy.Fmt1 Go.Sy.Eng1 Go.Sy.Eng2 Go.Sy.Eng3 Go.Sy.Eng4 Go.Sy.Num1 Go.Sy.Num2 Go.Sy.Fal2 Go.Sy.Cho2 Go.Sy.Mat1 Go.Sy.Num3 Go.Sy.Mat2 Go.Sy.Cmp2 Go.Sy.Mat3 Go.Sy.Put1 Go.Sy.Mat5 Go.Sy.Put2 Go.Sy.Ev3 Go.Sy.Fmt2 Go.Sy.Mat7 Go.Sy.Par1 Go.Sy.Drw1 Go.Sy.Drw2 Go.Sy.Drw4
theorem B9a{w:World}{a:Value}{code:(List UInt8)}(b:Gd.rd w [a] code):Cy 7 [a] w (Val w (.bool (decide (4096<code.length)))):=by
 have c:=rM b;refine enter 6 Tryz.func7 Y Y Y<|Sr<|Pe Y<|Sr<|p1 Y<|dl lU Y (AE b)<|PE 2 Y<|Ct<|Rb Y Y ?_;show((decide ((4096:Int)<((code.length:Nat):Int))):Bool)=_;simp;omega
set_option maxHeartbeats 8000000 in
theorem laws_FnReplayedLog(w:World)(d:Value)(code:(List UInt8))(e:Gd.rd w [d] code)(al:Tb w):Cy 6 [d] w (Val w (.bool (true))):=by
 have cd:=rM e;refine CX 73 Tryz.func6 Y Y Y (GL w w)<|Sr<|Pe Y<|Dh [fz w w] Y<|Cq<|Sr<|p1 Y<|qv b_7 Y (λw' b=>B9a<|B0 0 (E4.refl _) b Y e)<|Dx<|Ci _ Y (λh2=>?_) λh2=>?_
 ·refine Sr<|Pe Y<|Ct<|Xr<|Rb Y Y ?_;rfl
 ·refine Sk<|Sr<|p1 Y<|li Y (C1C (α:=List C1M) (β:=List C1K) A6t Y Y Y Y (E4.refl _) (λw' ak cj=>C6N w' _ ak d code e) λc a ce cf bo bp bu y r=>?_);obtain⟨bj,rfl⟩:=CL y;have bv:=rM y;obtain⟨ah,rfl⟩:=CL r;have bw:=rM r;refine MS 14 (v':=(.tuple #[bj,ah])) Y Y Y<|PE 5 Y<|Dh [fz w bo] Y<|Cq ?_;obtain⟨ai,am,bq,an⟩:=bp;refine Cr<|P2 Y Y (qc2 C3k Y (λw' b=>A9h (B0 0 (E4.refl _) b Y y) (B0 0 (E4.refl _) b Y r) ai am<|Tb.ext al b.bel) λbz ao=>?_);refine Dp (λw' b=>H5<|rO (k:=0) b Y) ?_;rintro⟨m,o,v20,v21,rfl,ap,aq,ar,au⟩;refine Dp (λw' b=>show ao=[(.bool (A8e c a))] from rO (k:=1) b Y) ?_;rintro rfl;refine MS 20 (v':=(.tuple #[(.agg #[m,o,iv ((A8N c a).g),v20,.bool ((A8N c a).p),v21]),.bool<|A8e c a])) Y Y Y<|AG [0,2] Y<|P3 Y Y Y (aL C5i Y λaj=>?_);refine li Y<|AZ (vs:=[m,o,iv ((A8N c a).g),v20,.bool ((A8N c a).p),v21]) (cs':=[m,o,iv ((A8N c a).g),v20,.bool ((A8N c a).p),v21]) 0 A6c Y Y Y Y Y Y (AB ap<|AB aq<|AB Y<|AB ar<|AB Y<|AB au BR) (by simp) Y ?_;refine Pe Y<|AH [3,4,5,6] Y<|Dh [bx aj [m,o,iv ((A8N c a).g),v20,.bool ((A8N c a).p),v21],ov [m,o,iv ((A8N c a).g),v20,.bool ((A8N c a).p),v21] (A8N c a:C1P),_] Y<|Cq<|Sr<|P2 Y Y<|AG [2,0,1] Y<|li Y (cz2 (α:=C1P) (β:=Bool) C3r Y Y Y Y (E4.refl _) (λw' ak=>B0h w' _ ak bj c ah a y r ai am bq an) λc0 av aw ax ay az=>?_);have a5:=Gd.rd_sub ax r;obtain⟨z,a0,a1,a2,rfl,a6,a7,a8,a9⟩:=C6 ay;have c1:=rM a6;have c2:=rM a7;have c3:=rM a8;have c4:=rM a9;obtain rfl:av=[(.bool (A8e c a))]:=az;refine MS 26 (v':=(.tuple #[(.agg #[z,a0,iv ((A8N c a).g),a1,.bool ((A8N c a).p),a2]),.bool<|A8e c a])) Y Y Y<|P3 Y Y Y (aL C5i Y λbr=>?_);refine li Y<|AZ (vs:=[z,a0,iv ((A8N c a).g),a1,.bool ((A8N c a).p),a2]) (cs':=[z,a0,iv ((A8N c a).g),a1,.bool ((A8N c a).p),a2]) 0 A6c Y Y Y Y Y Y (AB (A2 a6)<|AB (A2 a7)<|AB Y<|AB (A2 a8)<|AB Y<|AB (A2 a9) BR) (by simp) Y ?_;refine Pe Y<|Dh [bx br [z,a0,iv ((A8N c a).g),a1,.bool ((A8N c a).p),a2],fz w aw,_,_] Y<|Sr<|P2 Y Y<|q1 Y (A2x A6m Y Y Y)<|Dx<|Ci _ Y (λb0=>?_) λb0=>?_
  ·refine Sr<|Pe Y<|Ct<|Xr<|Rb Y Y ?_;exfalso;simp_all
  ·have c5:=fC b0;refine Sk<|Cq<|Sr<|PE 2 Y<|CN Y (λb1=>?_) λb1=>?_
   ·refine Cq ?_;have ck:=C8R ‹A8e c a=false›;refine Cr<|fl 2 C4O C5U Y<|q1 Y (A8k C4v Y Y λw' b=>(by obtain⟨bf,bg,bi,bh,e_,x,af,ag,h⟩:=C6 (rO (k:=3) b rfl);cases e_;exact h))<|P2 rfl rfl<|oV 38 rfl rfl (λb2=>?_) λb2=>?_
    ·refine fl 2 C5h A3Z Y<|q1 Y (A8k lW Y Y λw' b=>(by obtain⟨bf,bg,bi,bh,e_,x,af,ag,h⟩:=C6 (rO (k:=3) b rfl);cases e_;exact x))<|P3 rfl rfl rfl<|Dx<|Ct<|Xr<|Rb rfl rfl ?_;show(((((((A8N c a).p8).length:Nat):Int):Int)==0):Bool)=_;exact decide_eq_true (by omega)
    ·refine PE 6 Y<|Ct<|Xr<|Rb Y Y ?_;exfalso;omega
   ·refine Sk<|AH [4,5] Y<|AG [1,2,3] Y<|Cq<|Cq ?_;have bt:=C8M ‹A8e c a=true›;refine Cr<|fl 1 C4O C5U Y<|q1 Y (A8k C4v Y Y λw' b=>(by obtain⟨bf,bg,bi,bh,e_,x,af,ag,h⟩:=C6 (rO (k:=2) b rfl);cases e_;exact h))<|p1 rfl<|dl C4v rfl (AE a5)<|P2 rfl rfl<|gxn 50 rfl rfl (λb3=>?_) λb3=>?_
    ·refine PE 4 Y<|GF Y<|Sr<|Pe Y<|Ct<|Xr<|Rb Y Y ?_;exfalso;simp_all
    ·refine q1 Y (C9 1 C4u Y Y Y)<|qv B4C Y (λw' b=>WL (rO (k:=2) b Y) (B2g ai)<|Tb.ext al b.bel)<|PE 2 Y<|CN Y (λb4=>?_) λb4=>?_
     ·refine Sr<|Pe Y<|Ct<|Xr<|Rb Y Y ?_;exfalso;simp_all
     ·refine Sk<|Cq<|Cq<|AG [2,0,1] Y (MY (E4.refl _) λs b5 b6=>?_);have b7:=Gd.rd_sub b5 a5;obtain⟨bl,bk,bn,bm,e_,c6,c7,c8,b8⟩:=C6 b6
      cases e_
      refine Cr<|Pe Y<|Dh [fz w s,_] Y<|Cb<|Cl (λm_ ac w'=>∃(f:World),∃(i:Nat),(E4 s f)/\(i<=a.length)/\m_=a.length-i/\Fits ac 73 [(4,ah),(5,pv aj),(9,nv i)]/\St w ([fz w f,bx aj [m,o,iv ((A8N c a).g),v20,.bool ((A8N c a).p),v21]]) w') ?_ ?_
      ·refine λac w' hf b=>⟨_,s,0,E4.refl _,?_,Y,hf.wk Y,b⟩
       ·omega
      ·rintro m_ ac w' ⟨f,i,t,hi,rfl,hf,b⟩;refine D.use ?_ hf b;clear hf b ac w';have v:=Gd.rd_sub t b7;have aa:=Gd.rd_sub t b8;refine Cq<|Sr<|P2 Y Y<|dl C4v Y (AE v)<|Pe Y<|Dh [_,_] Y<|Cd Y (λb9=>?_) λb9=>?_
       ·refine Sk<|Cq<|Cb<|Cq<|A0 mixed [10,11] (by kernel_rfl)<|Tk 0 Y Y (Db C4O Y Y (q:=5) Y)<|Tk 1 Y Y (lb 1 C5U Y Y Y Y)<|tR 2 Y Y ?_;obtain⟨v0,a3⟩:=sI ((A8N c a).u) i;obtain⟨c9,ba,ab⟩:=AC (n:=4) rfl aa a3;obtain⟨cg,rfl,bb⟩:=D2 ab;have ca:=rM bb;refine Tk 3 Y Y (AJ (l:=((A8N c a).u)) (j:=i) C4v Y Y Y (λw' b=>B0 0 (E4.refl _) b Y aa) Y<|lS a3)<|Tk 4 Y Y (SO 0 (E4.refl _) Y C2U Y Y ba)<|tK 5 [6,7] Y ?_;obtain⟨q0,a4⟩:=sI a i;have bs:=an _ (List.mem_of_getElem? a4);obtain⟨cb,bc,ae⟩:=AC (n:=4) rfl v a4;obtain⟨ch,rfl,bd⟩:=D2 ae;have cc:=rM bd;refine Tk 8 Y Y (AJ (l:=a) (j:=i) C4v Y Y Y (λw' b=>B0 0 (E4.refl _) b Y v) Y<|lS a4)<|Tk 9 Y Y (SO 0 (E4.refl _) Y C2U Y Y bc)<|ty 5 Y Y<|cv A7L Y Y Y Y (λw' b=>C6S<|B0 0 (E4.refl _) b Y ab) ?_;refine tS (λ_ b=>b)<|ty 10 Y Y<|cv A5B Y Y Y Y (λw' b=>C6T (B0 0 (E4.refl _) b Y ae) bs) ?_;refine tZ Y<|ty 11 Y Y<|sv Y Y (E5 Y Y Y) ?_;refine tZ Y<|tE<|Xt<|AH [4,5,9,72] Y<|R8 Y (λbe=>?_) λbe=>?_
        ·refine Sr<|Pe Y<|Ct<|Xq<|Xr<|Xr<|Xq<|Xr<|Rb Y Y ?_;exfalso;rw[bt.2] at a3;have ci:=Option.some.inj (a3.symm.trans a4);simp_all
        ·refine Ck<|Xb<|Xt<|Cr<|p1 Y<|ad (i+1) Y<|Pe Y λac w' hf b=>⟨_,?_,f,i+1,t,?_,Y,hf.wk Y,b⟩
         ·omega
         ·omega
       ·refine Cx<|Xx<|Xx<|Xe<|Xt<|Sr<|Pe Y<|Ct<|Rb Y Y ?_;rfl
end Go.Sy.Lawi
end
