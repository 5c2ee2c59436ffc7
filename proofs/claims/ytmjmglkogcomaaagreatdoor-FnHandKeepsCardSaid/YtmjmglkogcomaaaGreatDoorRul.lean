/-
  Texts in order, patterns, conditions, rules: what is valid.
  Conditions: those that each theorem states.
-/
import Derived.Test.YtmjmglkogcomaaaGreatDoorEng
import Derived.Sort.EncStr
namespace Go.Sy
open Go
theorem W4:∀l:List UInt8,Op.bytesLess l l=false
 | []=>rfl
 | a::l=>by
  unfold Op.bytesLess;have:=W4 l;simp[this]
theorem bV:∀{a b c:List UInt8},Op.bytesLess a b=true->Op.bytesLess b c=true->Op.bytesLess a c=true
 |_,[],_,h,_=>by cases ‹List UInt8› <;>simp[Op.bytesLess] at h
 |_,_::_,[],_,h=>by simp[Op.bytesLess] at h
 | [],_::_,_::_,_,_=>by simp[Op.bytesLess]
 | x::a,y::b,z::c,h1,d=>by
  unfold Op.bytesLess at h1 d⊢;simp only[Bool.or_eq_true,decide_eq_true_eq,Bool.and_eq_true,beq_iff_eq] at h1 d⊢
  rcases h1 with h1|⟨rfl,h1⟩<;>rcases d with d|⟨rfl,d⟩
  ·exact .inl (UInt8.lt_trans h1 d)
  ·exact .inl h1
  ·exact .inl d
  ·exact .inr ⟨rfl,bV h1 d⟩
theorem qR:∀{a b:List UInt8},Op.bytesLess a b=false->Op.bytesLess b a=false->a=b
 | [],[],_,_=>rfl
 | [],_::_,h,_=>by simp[Op.bytesLess] at h
 |_::_,[],_,h=>by simp[Op.bytesLess] at h
 | x::a,y::b,h1,d=>by
  unfold Op.bytesLess at h1 d;simp only[Bool.or_eq_false_iff,decide_eq_false_iff_not,Bool.and_eq_false_iff,beq_eq_false_iff_ne] at h1 d;have e:x=y:=by
   have j:¬x.toNat<y.toNat:=h1.1;have k:¬y.toNat<x.toNat:=d.1;exact UInt8.toNat_inj.1 (by omega)
  subst e;have i:Op.bytesLess a b=false:=by rcases h1.2 with h|h;(·exact absurd rfl h);(·exact h)
  have g:Op.bytesLess b a=false:=by rcases d.2 with h|h;(·exact absurd rfl h);(·exact h)
  rw[qR i g]
theorem W5(a:ByteArray):a.toList=a.data.toList:=ByteArray.toList_eq a
theorem fT{a b:ByteArray}(h:a.data.toList=b.data.toList):a=b:=by
 cases a;cases b
 simp only at h
 congr 1
 exact Array.toList_inj.1 h
theorem HQ(a:ByteArray):JE a a=false:=W4 _
theorem N8{a b c:ByteArray}(h1:JE a b=true)(d:JE b c=true):JE a c=true:=bV h1 d
theorem QD{a b:ByteArray}(h1:JE a b=false)(d:JE b a=false):a=b:=by
 have:=qR h1 d;rw[W5,W5] at this;exact fT this
theorem qS{a b:ByteArray}(h:JE a b=true):JE b a=false:=by
 cases e:JE b a with
 |false=>rfl
 |true=>have:=N8 h e;rw[HQ] at this;cases this
abbrev V4(l:List ByteArray):Prop:=l.Pairwise (λx y=>JE x y=true)
def CE:List ByteArray->ByteArray->List ByteArray
 | [],s=> [s]
 |x::l,s=>if JE x s=true then x::CE l s else if x=s then x::l else s::x::l
theorem T4:∀{l:List ByteArray} {s y:ByteArray},y∈CE l s↔y∈l\/y=s
 | [],s,y=>by simp[CE]
 | x::l,s,y=>by
  unfold CE
  split
  ·rw[List.mem_cons,T4,List.mem_cons];exact⟨λh=>by rcases h with h|h|h<;>simp[h],λh=>by rcases h with (h|h)|h<;>simp[h]⟩
  ·split
   ·rename_i e;subst e;rw[List.mem_cons];exact⟨λh=> .inl h,λh=>by rcases h with h|h<;>simp_all⟩
   ·simp only[List.mem_cons];exact⟨λh=>by rcases h with h|h|h<;>simp[h],λh=>by rcases h with (h|h)|h<;>simp[h]⟩
theorem bW:∀{l:List ByteArray} {s:ByteArray},V4 l->V4 (CE l s)
 | [],s,_=>by simp[CE,V4]
 | x::l,s,h=>by
  have d:=List.pairwise_cons.1 h;unfold CE
  split
  ·rename_i hx;refine List.pairwise_cons.2 ⟨λy a=>?_,bW d.2⟩
   rcases T4.1 a with a|a
   ·exact d.1 y a
   ·rw[a];exact hx
  ·split
   ·exact h
   ·rename_i hx hne;have b:JE s x=true:=by
     cases e:JE s x with
     |true=>rfl
     |false=>exact absurd (QD (by simpa using hx) e) hne
    refine List.pairwise_cons.2 ⟨λy a=>?_,h⟩
    rcases List.mem_cons.1 a with rfl|a
    ·exact b
    ·exact N8 b (d.1 y a)
def AD(l:List ByteArray):List ByteArray:=l.foldl CE []
theorem Q6:∀(l:List ByteArray) {a:List ByteArray},V4 a->V4 (l.foldl CE a)
 | [],_,h=>h
 |x::l,_,h=>Q6 l (bW h)
theorem Q7:∀(l:List ByteArray) {a:List ByteArray} {y:ByteArray},y∈l.foldl CE a↔y∈a\/y∈l
 | [],a,y=>by simp
 | x::l,a,y=>by
  rw[List.foldl_cons,Q7 l,T4,List.mem_cons];exact⟨λh=>by rcases h with (h|h)|h<;>simp[h],λh=>by rcases h with h|h|h<;>simp[h]⟩
theorem Q8(l:List ByteArray):V4 (AD l):=Q6 l List.Pairwise.nil
theorem EW{l:List ByteArray}{y:ByteArray}:y∈AD l↔y∈l:=by
 unfold AD;rw[Q7];simp
theorem jG:∀{a b:List ByteArray},V4 a->V4 b->(∀y,y∈a↔y∈b)->a=b
 | [],[],_,_,_=>rfl
 | [],y::b,_,_,h=>by have:=(h y).2 (by simp);cases this
 |x::a,[],_,_,h=>by have:=(h x).1 (by simp);cases this
 | x::a,y::b,ha,hb,h=>by
  have d:=List.pairwise_cons.1 ha;have g:=List.pairwise_cons.1 hb;have e:x=y:=by
   rcases List.mem_cons.1 ((h x).1 (by simp)) with e|l
   ·exact e
   ·rcases List.mem_cons.1 ((h y).2 (by simp)) with e|k
    ·exact e.symm
    ·have:=N8 (d.1 y k) (g.1 x l);rw[HQ] at this;cases this
  subst e
  congr 1
  refine jG d.2 g.2 (λz=>⟨λj=>?_,λj=>?_⟩)
  ·rcases List.mem_cons.1 ((h z).1 (by simp[j])) with e|i
   ·subst e;have:=d.1 z j;rw[HQ] at this;cases this
   ·exact i
  ·rcases List.mem_cons.1 ((h z).2 (by simp[j])) with e|i
   ·subst e;have:=g.1 z j;rw[HQ] at this;cases this
   ·exact i
theorem T5{l a:List ByteArray}(b:V4 a)(h:∀y,y∈a↔y∈l):a=AD l:=jG b (Q8 l) (λy=>by rw[h,EW])
theorem SH{l m:List ByteArray}(h:∀y,y∈l↔y∈m):AD l=AD m:=T5 (Q8 l) (λy=>by rw[EW,h])
theorem J6(l:List ByteArray)(x:ByteArray):CE (AD l) x=AD (l++ [x]):=by unfold AD;rw[List.foldl_append];rfl
theorem QE(l:List ByteArray)(s:ByteArray):(CE l s).length<=l.length+1:=by
 induction l with
 |nil=>simp[CE]
 | cons x l ih=>
  unfold CE
  split
  ·simp only[List.length_cons];omega
  ·split<;>simp
theorem BO(l:List ByteArray):(AD l).length<=l.length:=by
 have key:∀(l a:List ByteArray),(l.foldl CE a).length<=a.length+l.length:=by
  intro l
  induction l with
  |nil=>intro a;simp
  | cons x l ih=>
   intro a;have h1:=ih (CE a x);have b:=QE a x;rw[List.foldl_cons,List.length_cons];omega
 have:=key l [];simpa [AD] using this
def LS(l:List ByteArray)(s:ByteArray)(k:Nat):Bool:=(l.take k).any (λx=> !(JE x s))
def FE(l:List ByteArray)(s:ByteArray)(k:Nat):List ByteArray:=if LS l s k=true then CE (l.take k) s else l.take k
theorem PF{l:List ByteArray}{s x:ByteArray}{k:Nat}(h:l[k]?=some x):LS l s (k+1)=(LS l s k|| !(JE x s)):=by
 unfold LS;rw[A1 h,List.any_append];simp
theorem SI:∀{l:List ByteArray} {s y:ByteArray},l.any (λx=> !(JE x s))=true->CE (l++ [y]) s=CE l s++ [y]
 | [],_,_,h=>by simp at h
 | x::l,s,y,h=>by
  simp only[List.cons_append,CE]
  by_cases e:JE x s=true
  ·rw[if_pos e,if_pos e];have:l.any (λx=> !(JE x s))=true:=by simpa [e] using h
   rw[SI this];rfl
  ·rw[if_neg e,if_neg e]
   by_cases a:x=s
   ·rw[if_pos a,if_pos a];rfl
   ·rw[if_neg a,if_neg a];rfl
theorem KY:∀{l:List ByteArray} {s:ByteArray} (r:List ByteArray),l.any (λx=> !(JE x s))=false->CE (l++r) s=l++CE r s
 | [],_,_,_=>rfl
 | x::l,s,r,h=>by
  simp only[List.any_cons,Bool.or_eq_false_iff,Bool.not_eq_false'] at h;simp only[List.cons_append,CE];rw[if_pos h.1,KY r h.2]
theorem PG{l:List ByteArray}{s x:ByteArray}{k:Nat}(h:l[k]?=some x)(a:LS l s k=true\/JE x s=true\/x=s):FE l s k++ [x]=FE l s (k+1):=by
 unfold FE;rw[PF h,A1 h]
 cases e:LS l s k with
 | true=>
  simp only[Bool.true_or,if_true];exact(SI e).symm
 | false=>
  rw[e] at a
  rcases a with a|a|a
  ·cases a
  ·simp[a]
  ·subst a;simp only[HQ,Bool.not_false,Bool.or_true,if_true,Bool.false_eq_true,if_false];rw[KY [x] e];simp[CE,HQ]
theorem mB{l:List ByteArray}{s x:ByteArray}{k:Nat}(h:l[k]?=some x)(hd:LS l s k=false)(h1:JE x s=false)(a:x≠s):FE l s k++ [s]++ [x]=FE l s (k+1):=by
 unfold FE;rw[PF h,A1 h,hd,h1];simp only[Bool.not_false,Bool.or_true,if_true,Bool.false_eq_true,if_false];rw[KY [x] hd];simp[CE,h1,a]
theorem fU{l:List ByteArray}{s:ByteArray}{k:Nat}(hk:l.length<=k)(hd:LS l s k=true):FE l s k=CE l s:=by
 unfold FE;rw[if_pos hd,List.take_of_length_le hk]
theorem fV{l:List ByteArray}{s:ByteArray}{k:Nat}(hk:l.length<=k)(hd:LS l s k=false):FE l s k++ [s]=CE l s:=by
 have b:l.any (λx=> !(JE x s))=false:=by unfold LS at hd;rwa [List.take_of_length_le hk] at hd
 have a:=KY (l:=l) (s:=s) [] b;rw[List.append_nil] at a;unfold FE;rw[hd];simp only[Bool.false_eq_true,if_false];rw[List.take_of_length_le hk,a];rfl
theorem mC(l:List ByteArray)(s:ByteArray)(k:Nat):(FE l s k).length<=k+1:=by
 unfold FE;have h1:(l.take k).length<=k:=by rw[List.length_take];omega
 split
 ·have:=QE (l.take k) s;omega
 ·omega
theorem S9{l:List ByteArray}{s x:ByteArray}{k:Nat}{b a:Bool}(h:l[k]?=some x)(hd:b=LS l s k)(e:a=(b|| !(JE x s))):a=LS l s (k+1):=by rw[PF h,<-hd];exact e
def G3(l:List ByteArray):List ByteArray:=((l.map (·.data.toList)).mergeSort λx y=>decide (x<=y)).map (λx=>⟨x.toArray⟩)
theorem T6(l:List ByteArray):(G3 l).length=l.length:=by simp[G3,List.length_mergeSort]
theorem qT{l:List ByteArray}{y:ByteArray}:y∈G3 l↔y∈l:=by
 unfold G3;rw[List.mem_map]
 constructor
 ·rintro⟨x,b,rfl⟩;obtain⟨z,a,rfl⟩:=List.mem_map.1 ((List.mergeSort_perm _ _).mem_iff.1 b);have:(⟨z.data.toList.toArray⟩:ByteArray)=z:=by apply fT;simp
  rw[this];exact a
 ·intro hy;exact⟨y.data.toList,(List.mergeSort_perm _ _).mem_iff.2 (List.mem_map_of_mem hy),by apply fT;simp⟩
theorem A0f:∀{a b:List UInt8},Op.bytesLess a b=true↔a<b
 | _,[]=>by
  cases ‹List UInt8› <;>simp[Op.bytesLess]
 | [],_::_=>by simp[Op.bytesLess]
 | x::a,y::b=>by
  unfold Op.bytesLess;simp only[Bool.or_eq_true,decide_eq_true_eq,Bool.and_eq_true,beq_iff_eq,A0f (a:=a) (b:=b)];exact List.cons_lt_cons_iff.symm
theorem wL(l:List ByteArray):(G3 l).Pairwise (λx y=>JE y x=false):=by
 unfold G3;rw[List.pairwise_map];refine List.Pairwise.imp (λ{a b} (hab:decide (a<=b)=true)=>?_) (List.pairwise_mergeSort (λa b c h1 d=>?_) (λa b=>?_) _)
 ·rw[decide_eq_true_eq] at hab;rw[Bool.eq_false_iff];intro h;unfold JE at h;rw[W5,W5] at h;simp only[] at h;rw[A0f] at h;exact List.not_lt.2 hab h
 ·rw[decide_eq_true_eq] at*;exact List.le_trans h1 d
 ·rw[Bool.or_eq_true,decide_eq_true_eq,decide_eq_true_eq];exact List.le_total a b
def E2(l:List ByteArray):Nat->List ByteArray
 |0=> []
 | k+1=>match l[k]? with
  |none=>E2 l k
  |some x=>if k=0\/l[k-1]?≠some x then E2 l k++ [x] else E2 l k
theorem Y9{l:List ByteArray}{k:Nat}{x:ByteArray}(h:l[k]?=some x)(hc:k=0\/l[k-1]?≠some x):E2 l k++ [x]=E2 l (k+1):=by
 simp only[E2,h];rw[if_pos hc]
theorem jH{l:List ByteArray}{k:Nat}{x:ByteArray}(h:l[k]?=some x)(h0:k≠0)(hc:l[k-1]?=some x):E2 l k=E2 l (k+1):=by
 simp only[E2,h];rw[if_neg (by rintro(h|h);(·exact h0 h);(·exact h hc))]
theorem W6(l:List ByteArray):∀k,(E2 l k).length<=k
 |0=>Nat.le_refl _
 | k+1=>by
  have a:=W6 l k;unfold E2
  split
  ·omega
  ·split
   ·simp;omega
   ·omega
theorem T7{l:List ByteArray}(hp:l.Pairwise (λx y=>JE y x=false)):∀k,k<=l.length->V4 (E2 l k)/\(∀y,y∈E2 l k↔y∈l.take k)/\(∀x,0<k->l[k-1]?=some x->∀y∈E2 l k,y=x\/JE y x=true)
 |0,_=>⟨List.Pairwise.nil,λy=>by simp[E2],λx h=>by omega⟩
 | k+1,hk=>by
  obtain⟨h1,p,t⟩:=T7 hp k (by omega);obtain⟨x,g⟩:=sL (l:=l) (i:=k) (by omega);have m:∀y∈E2 l k,y=x\/JE y x=true:=λy a=>by
   obtain⟨i,s⟩:=List.getElem?_of_mem ((p y).1 a);have q:=lS s;rw[List.length_take] at q;rw[List.getElem?_take,if_pos (by omega)] at s;have:=List.pairwise_iff_getElem.1 hp i k (by omega) (by omega) (by omega);obtain⟨u,c1⟩:=List.getElem?_eq_some_iff.1 s;obtain⟨v,c2⟩:=List.getElem?_eq_some_iff.1 g;rw[c1,c2] at this
   cases e:JE y x with
   |true=>exact .inr rfl
   |false=>exact .inl (QD e this)
  by_cases d:k=0\/l[k-1]?≠some x
  ·rw[<-Y9 g d];have o:∀y∈E2 l k,JE y x=true:=λy a=>by
    rcases m y a with e|e
    ·exfalso;subst e
     rcases d with d|d
     ·subst d;simp[E2] at a
     ·by_cases j:0<k
      ·obtain⟨z,b⟩:=sL (l:=l) (i:=k-1) (by omega);have w:=t z j b y a;have r:=List.pairwise_iff_getElem.1 hp (k-1) k (by omega) (by omega) (by omega);obtain⟨u,c1⟩:=List.getElem?_eq_some_iff.1 b;obtain⟨v,c2⟩:=List.getElem?_eq_some_iff.1 g;rw[c1,c2] at r
       rcases w with e|e
       ·subst e;exact d b
       ·rw[e] at r;cases r
      ·have:k=0:=by omega
       subst this;simp[E2] at a
    ·exact e
   refine⟨List.pairwise_append.2 ⟨h1,by simp,λy a z b=>?_⟩,λy=>?_,λz _ b y a=>?_⟩
   ·simp only[List.mem_singleton] at b;subst b;exact o y a
   ·rw[A1 g,List.mem_append,List.mem_append,p]
   ·simp only[Nat.add_sub_cancel] at b;rw[g] at b
    cases b
    rcases List.mem_append.1 a with a|a
    ·exact .inr (o y a)
    ·simp only[List.mem_singleton] at a;exact .inl a
  ·have j:k≠0:=λe=>d (.inl e)
   have n:l[k-1]?=some x:=Classical.byContradiction λe=>d (.inr e)
   rw[<-jH g j n];refine⟨h1,λy=>?_,λz _ b y a=>?_⟩
   ·rw[A1 g,List.mem_append,p];refine⟨λh=> .inl h,λh=>?_⟩
    rcases h with h|h
    ·exact h
    ·simp only[List.mem_singleton] at h;subst h;refine List.mem_of_getElem? (i:=k-1) ?_;rw[List.getElem?_take,if_pos (by omega)];exact n
   ·simp only[Nat.add_sub_cancel] at b;rw[g] at b
    cases b
    exact m y a
theorem mD{l:List ByteArray}{k:Nat}(hk:l.length<=k)(a:k<=l.length):E2 (G3 l) k=AD l:=by
 have hl:=T6 l;obtain⟨h1,b,_⟩:=T7 (wL l) k (by omega);refine T5 h1 (λy=>?_);rw[b,List.take_of_length_le (by omega),qT]
end Go.Sy
namespace Go.Sy
open Go
def H1(l:List ByteArray)(v:ByteArray):Bool:=l.any (λx=>decide (x=v))
theorem FQ{l:List ByteArray}{v:ByteArray}:H1 l v=true↔v∈l:=by simp[H1]
theorem qU{l:List ByteArray}{v x:ByteArray}{i:Nat}(h:l[i]?=some x)(e:x=v):true=H1 l v:=by
 subst e;exact(FQ.2 (List.mem_of_getElem? h)).symm
theorem qV{l:List ByteArray}{v:ByteArray}(h:∀i,i<l.length->l[i]?≠some v):false=H1 l v:=by
 symm;rw[Bool.eq_false_iff];intro hc
 obtain⟨i,a⟩:=List.getElem?_of_mem (FQ.1 hc);exact h i (lS a) a
def BM(s:ByteArray):Bool:=decide ((1:Int)<(s.size:Int))&&((sB s 0==63)&&BA (s.extract 1 s.size))
def EP(s:ByteArray):Bool:=BA s||BM s
def CK(p:C1H):Bool:=FK p.p5&&decide (p.a.length<=3)&&p.a.all EP
def B6(p:C1H):Bool:=decide (p.p5=⟨#[]⟩)&&decide (p.a.length=0)
def BD(x:C1L):Bool:=
 if x.s=1\/x.s=2 then CK x.p2&&(decide (x.t=⟨#[]⟩)&&decide (x.p6=⟨#[]⟩))
 else if x.s=3\/x.s=4\/x.s=5 then EP x.t&&(EP x.p6&&B6 x.p2)
 else false
def IA(x:C1L):Bool:=BD x&&decide (3<=x.s)
def D3(a:Action):Bool:=if a.s=1\/a.s=2 then CK a.p2 else if a.s=3 then B6 a.p2 else false
def AM(l:List ByteArray):List ByteArray:=l.filter BM
def A6(x:C1L):List ByteArray:=AM (x.p2.a++ [x.t,x.p6])
theorem EF(x:C1L):(A6 x).length<=x.p2.a.length+2:=by
 refine Nat.le_trans (List.length_filter_le _ _) ?_;simp
theorem C1(l:List ByteArray):(AM l).length<=l.length:=List.length_filter_le _ _
theorem jI{l:List ByteArray}{k:Nat}{x:ByteArray}(h:l[k]?=some x)(a:BM x=true):AM (l.take k)++ [x]=AM (l.take (k+1)):=by
 unfold AM;rw[A1 h,List.filter_append];simp[a]
theorem jJ{l:List ByteArray}{k:Nat}{x:ByteArray}(h:l[k]?=some x)(a:BM x=false):AM (l.take k)=AM (l.take (k+1)):=by
 unfold AM;rw[A1 h,List.filter_append];simp[a]
theorem wM{l:List ByteArray}{k:Nat}{x:ByteArray}(h:l[k]?=some x)(a:BM x=true):CE (AD (AM (l.take k))) x=AD (AM (l.take (k+1))):=by
 rw[J6,jI h a]
theorem wN{l:List ByteArray}{k:Nat}{x:ByteArray}(h:l[k]?=some x)(a:BM x=false):AD (AM (l.take k))=AD (AM (l.take (k+1))):=by
 rw[jJ h a]
theorem mE{x:C1L}(h:BD x=true):1<=x.s/\x.s<=5:=by
 unfold BD at h
 split at h
 ·omega
 ·split at h
  ·omega
  ·cases h
theorem A7Q{x:C1L}(h1:BM x.t=false)(b:BM x.p6=false):AD (AM x.p2.a)=AD (A6 x):=by simp[A6,AM,h1,b]
theorem A7R{x:C1L}(h1:BM x.t=true)(b:BM x.p6=false):CE (AD (AM x.p2.a)) x.t=AD (A6 x):=by rw[J6];simp[A6,AM,h1,b]
theorem A7S{x:C1L}(h1:BM x.t=false)(b:BM x.p6=true):CE (AD (AM x.p2.a)) x.p6=AD (A6 x):=by rw[J6];simp[A6,AM,h1,b]
theorem A7T{x:C1L}(h1:BM x.t=true)(b:BM x.p6=true):CE (CE (AD (AM x.p2.a)) x.t) x.p6=AD (A6 x):=by rw[J6,J6];simp[A6,AM,h1,b]
def MV(r:C1M)(k:Nat):List ByteArray:=((r.q.take k).filter (λx=>decide (x.s=1))).flatMap (λx=>AM x.p2.a)
def DR(r:C1M)(n:Int):List ByteArray:=MV r n.toNat
theorem A0g{r:C1M}{k:Nat}{x:C1L}(h:r.q[k]?=some x)(hk:x.s=1):MV r k++AM x.p2.a=MV r (k+1):=by
 unfold MV;rw[A1 h,List.filter_append,List.flatMap_append];simp[hk]
theorem A0h{r:C1M}{k:Nat}{x:C1L}(h:r.q[k]?=some x)(hk:x.s≠1):MV r k=MV r (k+1):=by
 unfold MV;rw[A1 h,List.filter_append,List.flatMap_append];simp[hk]
theorem jK{r:C1M}{k m:Nat}(h:r.q.length<=k)(a:k<=m):MV r k=MV r m:=by
 unfold MV;rw[List.take_of_length_le h,List.take_of_length_le (by omega)]
def V5(r:C1M)(n:Int)(k:Nat):List ByteArray:=MV r (min k n.toNat)
theorem A5M{r:C1M}{n:Int}{k:Nat}{x:C1L}(h:r.q[k]?=some x)(b:(k:Int)<n)(hk:x.s=1):V5 r n k++AM x.p2.a=V5 r n (k+1):=by
 unfold V5;rw[Nat.min_eq_left (by omega),Nat.min_eq_left (by omega)];exact A0g h hk
theorem A0i{r:C1M}{n:Int}{k:Nat}{x:C1L}(h:r.q[k]?=some x)(a:¬(k:Int)<n\/x.s≠1):V5 r n k=V5 r n (k+1):=by
 unfold V5
 by_cases hk:(k:Int)<n
 ·rw[Nat.min_eq_left (by omega),Nat.min_eq_left (by omega)];exact A0h h (by rcases a with h|h;(·exact absurd hk h);(·exact h))
 ·rw[Nat.min_eq_right (by omega),Nat.min_eq_right (by omega)]
theorem qW{r:C1M}{n:Int}{k:Nat}(h:r.q.length<=k)(a:k<=r.q.length):V5 r n k=DR r n:=by
 unfold V5 DR
 by_cases hn:k<=n.toNat
 ·rw[Nat.min_eq_left hn];exact jK h hn
 ·rw[Nat.min_eq_right (by omega)]
theorem NH{α:Type}{f:α->List ByteArray}{c:α->Nat}(a:∀x,(f x).length<=c x):∀l:List α,(l.flatMap f).length<=AI c l
 | []=>by simp[AI]
 | x::l=>by
  have b:=NH a l;have h1:=a x;rw[List.flatMap_cons,List.length_append];simp only[AI,List.map_cons,List.sum_cons] at b⊢;omega
theorem PH(p:C1H):p.a.length<=E8 p:=by unfold E8 M9;omega
theorem BX(x:C1L):x.p2.a.length<=BW x:=by have:=PH x.p2;unfold BW;omega
theorem mF{α:Type}{c:α->Nat}{a b:List α}(h:List.Sublist a b):AI c a<=AI c b:=by
 induction h with
 |slnil=>exact Nat.le_refl _
 |cons x _ ih=>simp only[AI,List.map_cons,List.sum_cons] at ih⊢;omega
 |cons_cons x _ ih=>simp only[AI,List.map_cons,List.sum_cons] at ih⊢;omega
theorem jL(r:C1M)(k:Nat):(MV r k).length<=AI BW r.q:=by
 refine Nat.le_trans (NH (c:=BW) (λx=>Nat.le_trans (C1 _) (BX x)) _) ?_;exact Nat.le_trans (mF (List.filter_sublist)) (AV r.q BW k)
theorem wO(r:C1M)(n:Int)(k:Nat):(V5 r n k).length<=AI BW r.q:=jL r _
def Q9(l:List C1L)(k:Nat):List ByteArray:=(l.take k).flatMap A6
def aG(l:List C1L)(k:Nat):List ByteArray:=(l.take k).flatMap (λx=>AD (A6 x))
theorem qX{l:List C1L}{k:Nat}{x:C1L}(h:l[k]?=some x):aG l k++AD (A6 x)=aG l (k+1):=by
 unfold aG;rw[A1 h,List.flatMap_append];simp
theorem ZA(l:List C1L)(k:Nat):(aG l k).length<=AI BW l+2*l.length:=by
 have h1:=NH (f:=λx=>AD (A6 x)) (c:=λx=>BW x+2) (λx=>Nat.le_trans (BO _) (Nat.le_trans (EF x) (by have:=BX x;omega))) (l.take k);have a:=AV l (λx=>BW x+2) k;have b:AI (λx=>BW x+2) l=AI BW l+2*l.length:=by
  clear h1 a
  induction l with
  |nil=>rfl
  |cons x l ih=>simp only[AI,List.map_cons,List.sum_cons,List.length_cons] at ih⊢;omega
 unfold aG;omega
theorem A5N(l:List C1L)(k:Nat):AD (aG l k)=AD (Q9 l k):=by
 refine SH (λy=>?_);unfold aG Q9;simp only[List.mem_flatMap,EW]
def IB(r:C1M):List ByteArray:=Q9 r.q r.q.length
def SJ(r:C1M)(k:Nat):List ByteArray:=(r.q0.take k).flatMap (λa=>AM a.p2.a)
theorem mG(a l:List ByteArray):(AD l).foldl CE (AD a)=AD (a++l):=by
 refine T5 (Q6 _ (Q8 a)) (λy=>?_);rw[Q7,EW,EW,List.mem_append]
theorem PI{l:List ByteArray}{a:List ByteArray}{k:Nat}{x:ByteArray}(h:l[k]?=some x):CE ((l.take k).foldl CE a) x=(l.take (k+1)).foldl CE a:=by
 rw[A1 h,List.foldl_append];rfl
theorem RA(l a:List ByteArray)(k:Nat):((l.take k).foldl CE a).length<=a.length+k:=by
 have key:∀(l a:List ByteArray),(l.foldl CE a).length<=a.length+l.length:=by
  intro l
  induction l with
  |nil=>intro a;simp
  | cons x l ih=>
   intro a;have h1:=ih (CE a x);have b:=QE a x;rw[List.foldl_cons,List.length_cons];omega
 have:=key (l.take k) a;have b:(l.take k).length<=k:=by rw[List.length_take];omega
 omega
theorem PK{l a b:List ByteArray}{k:Nat}(h:(AD l).length<=k):((AD l).take k).foldl CE (AD a)=AD (a++l):=by
 rw[List.take_of_length_le h];exact mG a l
def SQ(r:C1M)(k:Int)(v:ByteArray)(i:Nat):Bool:=match r.q[i]? with|none=>false|some x=>decide ((i:Int)≠k)&&H1 (A6 x) v
def V6(v:ByteArray)(a:Action):Bool:=H1 (AM a.p2.a) v
def PL(r:C1M)(k:Int)(v:ByteArray):Bool:=(List.range r.q.length).any (SQ r k v)||r.q0.any (V6 v)
theorem A1j{r:C1M}{k:Int}{v:ByteArray}{i:Nat}{x:C1L}(h:r.q[i]?=some x)(hk:(i:Int)≠k)(hc:v∈A6 x):true=PL r k v:=by
 unfold PL;have:(List.range r.q.length).any (SQ r k v)=true:=by
  rw[List.any_eq_true];exact⟨i,by simpa using lS h,by simp[SQ,h,hk,FQ.2 hc]⟩
 rw[this];rfl
theorem qY{r:C1M}{k:Int}{v:ByteArray}{i:Nat}{a:Action}(h:r.q0[i]?=some a)(hc:v∈AM a.p2.a):true=PL r k v:=by
 unfold PL;have:r.q0.any (V6 v)=true:=List.any_eq_true.2 ⟨a,List.mem_of_getElem? h,FQ.2 hc⟩;rw[this];simp
theorem A0j{r:C1M}{k:Int}{v:ByteArray}(h1:∀i,i<r.q.length->SQ r k v i=false)(d:∀i,i<r.q0.length->∀a,r.q0[i]?=some a->V6 v a=false):false=PL r k v:=by
 unfold PL;have e:(List.range r.q.length).any (SQ r k v)=false:=by
  rw[List.any_eq_false];intro i b;rw[h1 i (by simpa using b)];simp
 have g:r.q0.any (V6 v)=false:=by
  rw[List.any_eq_false];intro a ha;obtain⟨i,b⟩:=List.getElem?_of_mem ha;rw[d i (lS b) a b];simp
 rw[e,g];rfl
theorem wP{r:C1M}{k:Int}{v:ByteArray}{i:Nat}{x:C1L}(h:r.q[i]?=some x)(hc:¬v∈A6 x):SQ r k v i=false:=by
 have:H1 (A6 x) v=false:=by rw[Bool.eq_false_iff];exact λc=>hc (FQ.1 c)
 simp[SQ,h,this]
theorem bY{v:ByteArray}{l:List ByteArray}(a:BM v=true):v∈AM l↔v∈l:=by
 unfold AM;rw[List.mem_filter];exact⟨λh=>h.1,λh=>⟨h,a⟩⟩
theorem A1k{x:C1L}{v:ByteArray}(h:v∈A6 x):BM v=true:=(List.mem_filter.1 h).2
def okV(r:C1M)(k:Int)(x:C1L)(v:ByteArray):Bool:=decide (x.s=1)||(H1 (DR r k) v||(decide (x.s=2)&& !(PL r k v)))
def GP(r:C1M)(k:Nat):Bool:=match r.q[k]? with|none=>false|some x=>BD x&&((decide (k≠0)||decide (x.s=1))&&(A6 x).all (okV r (k:Int) x))
def IG(r:C1M)(a:Action):Bool:=D3 a&&(AM a.p2.a).all (λv=>H1 (DR r (r.q.length:Int)) v)
def CR(r:C1M):Bool:=
 FK r.y&&(GO r.p3 0 9&&(GO (r.q.length:Int) 1 4&&(GO (r.q0.length:Int) 1 2&&((List.range r.q.length).all (GP r)&&(r.q0.all (IG r)&&decide ((AD (IB r)).length<=6))))))
def BN(l:List C1M)(name:ByteArray):Int:=match l.findIdx? (λr=>decide (r.y=name)) with|none=> -1|some i=>(i:Int)
def JR(l:List C1M)(i:Nat):Bool:=match l[i]? with|none=>false|some r=>CR r&&decide (BN l r.y=(i:Int))
def AR(l:List C1M):Bool:=decide (l.length<=6)&&(List.range l.length).all (JR l)
theorem qZ{l:List C1M}{name:ByteArray}{i:Nat}{r:C1M}(h:l[i]?=some r)(a:r.y=name)(d:∀j,j<i->∀q,l[j]?=some q->q.y≠name):(i:Int)=BN l name:=by
 unfold BN;have:l.findIdx? (λr=>decide (r.y=name))=some i:=by
  rw[List.findIdx?_eq_some_iff_getElem];obtain⟨b,c⟩:=List.getElem?_eq_some_iff.1 h;refine⟨b,by rw[c];simpa using a,λj e=>?_⟩;have:=d j e l[j] (List.getElem?_eq_getElem (by omega));simpa using this
 rw[this]
theorem rB{l:List C1M}{name:ByteArray}(b:∀j,j<l.length->∀q,l[j]?=some q->q.y≠name): -1=BN l name:=by
 unfold BN;have:l.findIdx? (λr=>decide (r.y=name))=none:=by
  rw[List.findIdx?_eq_none_iff];intro q hq;obtain⟨j,a⟩:=List.getElem?_of_mem hq;simpa using b j (lS a) q a
 rw[this]
theorem A1l{l:List C1M}(h:¬l.length<=6):false=AR l:=by unfold AR;rw[decide_eq_false h];rfl
theorem ZB{l:List C1M}{i:Nat}(a:i<l.length)(h:JR l i=false):false=AR l:=by
 unfold AR;have:(List.range l.length).all (JR l)=false:=by rw[List.all_eq_false];exact⟨i,by simpa using a,by rw[h];simp⟩
 rw[this];simp
theorem A0k{l:List C1M}(a:∀i,i<l.length->JR l i=true):decide (l.length<=6)=AR l:=by
 unfold AR;have:(List.range l.length).all (JR l)=true:=by rw[List.all_eq_true];intro i h;exact a i (by simpa using h)
 rw[this];simp
theorem bZ{l:List C1M}{i:Nat}{r:C1M}(h:l[i]?=some r)(a:CR r=false):JR l i=false:=by simp[JR,h,a]
theorem cA{l:List C1M}{i:Nat}{r:C1M}(h:l[i]?=some r)(a:BN l r.y≠(i:Int)):JR l i=false:=by simp[JR,h,a]
theorem jM{l:List C1M}{i:Nat}{r:C1M}(h:l[i]?=some r)(h1:CR r=true)(a:BN l r.y=(i:Int)):JR l i=true:=by simp[JR,h,h1,a]
theorem NI{r:C1M}(h:FK r.y=false\/GO r.p3 0 9=false\/GO (r.q.length:Int) 1 4=false\/GO (r.q0.length:Int) 1 2=false):false=CR r:=by
 unfold CR
 rcases h with h|h|h|h<;>rw[h]<;>simp
theorem QF{r:C1M}{k:Nat}(hk:k<r.q.length)(h:GP r k=false):false=CR r:=by
 unfold CR;have:(List.range r.q.length).all (GP r)=false:=by rw[List.all_eq_false];exact⟨k,by simpa using hk,by rw[h];simp⟩
 rw[this];simp
theorem jN{r:C1M}{k:Nat}{a:Action}(b:r.q0[k]?=some a)(h:IG r a=false):false=CR r:=by
 unfold CR;have:r.q0.all (IG r)=false:=by rw[List.all_eq_false];exact⟨a,List.mem_of_getElem? b,by rw[h];simp⟩
 rw[this];simp
theorem A5O{r:C1M}(h1:FK r.y=true)(d:GO r.p3 0 9=true)(e:GO (r.q.length:Int) 1 4=true)(g:GO (r.q0.length:Int) 1 2=true)(hc:∀k,k<r.q.length->GP r k=true)(j:∀k,k<r.q0.length->∀a,r.q0[k]?=some a->IG r a=true){n:Nat}(l:n=(AD (IB r)).length):decide ((n:Int)<=6)=CR r:=by
 unfold CR;have m:(List.range r.q.length).all (GP r)=true:=by rw[List.all_eq_true];intro i h;exact hc i (by simpa using h)
 have o:r.q0.all (IG r)=true:=by
  rw[List.all_eq_true];intro a hm;obtain⟨i,b⟩:=List.getElem?_of_mem hm;exact j i (lS b) a b
 rw[h1,d,e,g,m,o,l,Bool.eq_iff_iff];simp;omega
theorem A1m{r:C1M}{v:ByteArray}(h:v∈DR r (r.q.length:Int)):v∈IB r:=by
 unfold DR MV at h;simp only[List.mem_flatMap,List.mem_filter] at h;obtain⟨x,⟨b,_⟩,a⟩:=h;unfold IB Q9;rw[List.mem_flatMap];refine⟨x,by simpa using b,?_⟩;unfold A6 AM at*;rw[List.mem_filter] at*;exact⟨by simp[a.1],a.2⟩
theorem A1n{r:C1M}(e:∀k,k<r.q0.length->∀a,r.q0[k]?=some a->IG r a=true):(AD (IB r++SJ r r.q0.length)).length=(AD (IB r)).length:=by
 congr 1
 refine SH (λy=>?_);rw[List.mem_append];refine⟨λh=>?_,λh=> .inl h⟩
 rcases h with h|h
 ·exact h
 ·unfold SJ at h;rw[List.mem_flatMap] at h;obtain⟨a,b,g⟩:=h;rw[List.take_of_length_le (Nat.le_refl _)] at b;obtain⟨i,d⟩:=List.getElem?_of_mem b;have:=e i (lS d) a d;unfold IG at this;simp only[Bool.and_eq_true,List.all_eq_true] at this;have:=this.2 y g;exact A1m (FQ.1 this)
theorem J0{l:List ByteArray}{v:ByteArray}:H1 (AD l) v=H1 l v:=by rw[Bool.eq_iff_iff,FQ,FQ,EW]
theorem cB{l:List ByteArray}{v:ByteArray}(h:H1 l v=false):¬v∈l:=λc=>by rw[FQ.2 c] at h;cases h
theorem wQ(r:C1M)(n:Int):[]=V5 r n 0:=by simp[V5,MV]
theorem rC(r:C1M):[]=AD (MV r 0):=by simp[MV,AD]
theorem A5P{r:C1M}{k q:Nat}{x:C1L}(h:r.q[k]?=some x)(hk:x.s=1)(d:(AD (AM x.p2.a)).length<=q):((AD (AM x.p2.a)).take q).foldl CE (AD (MV r k))=AD (MV r (k+1)):=by
 rw[PK (b:=[]) d,A0g h hk]
theorem A5Q{r:C1M}{k:Nat}{x:C1L}(h:r.q[k]?=some x)(hk:x.s≠1):AD (MV r k)=AD (MV r (k+1)):=by rw[A0h h hk]
theorem jO{r:C1M}{i:Nat}{n:Int}(h:r.q.length<=i\/n<=(i:Int))(a:i=0\/(i:Int)<=n):AD (MV r i)=AD (DR r n):=by
 unfold DR
 rcases h with h|h
 ·rw[jK (m:=n.toNat) h (by omega)]
 ·rw[show i=n.toNat by omega]
theorem wR{l:List C1L}{k:Nat}(h1:k<=l.length)(a:l.length<=k):aG l k=aG l l.length:=by rw[show k=l.length by omega]
theorem jP(l:List C1L)(k:Nat):(Q9 l k).length<=AI BW l+2*l.length:=by
 have h1:=NH (f:=A6) (c:=λx=>BW x+2) (λx=>Nat.le_trans (EF x) (by have:=BX x;omega)) (l.take k);have a:=AV l (λx=>BW x+2) k;have b:AI (λx=>BW x+2) l=AI BW l+2*l.length:=by
  clear h1 a
  induction l with
  |nil=>rfl
  |cons x l ih=>simp only[AI,List.map_cons,List.sum_cons,List.length_cons] at ih⊢;omega
 unfold Q9;omega
theorem wS(r:C1M)(k:Nat):(SJ r k).length<=AI CV r.q0:=by
 refine Nat.le_trans (NH (c:=CV) (λx=>Nat.le_trans (C1 _) (PH x.p2)) _) (AV r.q0 CV k)
theorem J7(x:Action):x.p2.a.length<=CV x:=PH x.p2
theorem rD{l:List C1L}{k:Nat}{x:C1L}(h:l[k]?=some x):Q9 l k++A6 x=Q9 l (k+1):=by
 unfold Q9;rw[A1 h,List.flatMap_append];simp
theorem rE(l:List C1L):[]=AD (Q9 l 0):=by simp[Q9,AD]
theorem A5R{l:List C1L}{k q:Nat}{x:C1L}(h:l[k]?=some x)(a:(AD (A6 x)).length<=q):((AD (A6 x)).take q).foldl CE (AD (Q9 l k))=AD (Q9 l (k+1)):=by
 rw[PK (b:=[]) a,rD h]
theorem rF{r:C1M}{k:Nat}(h1:k<=r.q.length)(a:r.q.length<=k):AD (Q9 r.q k)=AD (IB r++SJ r 0):=by
 rw[show k=r.q.length by omega];simp[IB,SJ]
theorem A5S{r:C1M}{k q:Nat}{x:Action}(h:r.q0[k]?=some x)(d:(AD (AM x.p2.a)).length<=q):((AD (AM x.p2.a)).take q).foldl CE (AD (IB r++SJ r k))=AD (IB r++SJ r (k+1)):=by
 rw[PK (b:=[]) d];unfold SJ;rw[A1 h,List.flatMap_append];simp
theorem rG{r:C1M}{k:Nat}(h1:k<=r.q0.length)(a:r.q0.length<=k):AD (IB r++SJ r k)=AD (IB r++SJ r r.q0.length):=by rw[show k=r.q0.length by omega]
theorem rH(r:C1M):(IB r).length<=AI BW r.q+2*r.q.length:=jP r.q _
theorem jQ{r:C1M}{k:Int}{v:ByteArray}{i:Nat}{x:C1L}(h:r.q[i]?=some x)(hk:(i:Int)≠k)(hc:H1 (AD (A6 x)) v=true):true=PL r k v:=A1j h hk (EW.1 (FQ.1 hc))
theorem cC{r:C1M}{k:Int}{v:ByteArray}{i:Nat}{x:C1L}(h:r.q[i]?=some x)(hc:H1 (AD (A6 x)) v=false):SQ r k v i=false:=wP h (λc=>cB hc (EW.2 c))
theorem wT{r:C1M}{k:Int}{v:ByteArray}{i:Nat}{a:Action}(b:BM v=true)(h:r.q0[i]?=some a)(hc:H1 a.p2.a v=true):true=PL r k v:=qY h ((bY b).2 (FQ.1 hc))
theorem wU{r:C1M}{k:Int}{v:ByteArray}{i:Nat}{a:Action}(h:r.q0[i]?=some a)(hc:H1 (AD (AM a.p2.a)) v=true):true=PL r k v:=qY h (EW.1 (FQ.1 hc))
theorem A1o{v:ByteArray}{a:Action}(b:BM v=true)(hc:H1 a.p2.a v=false):V6 v a=false:=by
 unfold V6;rw[Bool.eq_false_iff];intro c;exact cB hc ((bY b).1 (FQ.1 c))
theorem A1p{v:ByteArray}{a:Action}(hc:H1 (AD (AM a.p2.a)) v=false):V6 v a=false:=by unfold V6;rw[<-J0];exact hc
def ZC(r:C1M)(k:Int):Bool:=match r.q[k.toNat]? with|none=>false|some x=>(A6 x).all (okV r k x)
theorem fW{r:C1M}{k:Int}{x:C1L}{v:ByteArray}(h:x.s=1):okV r k x v=true:=by simp[okV,h]
theorem T8{r:C1M}{k:Int}{x:C1L}{v:ByteArray}(h:H1 (AD (DR r k)) v=true):okV r k x v=true:=by rw[J0] at h;simp[okV,h]
theorem rI{r:C1M}{k:Int}{x:C1L}{v:ByteArray}(h:x.s=2)(a:PL r k v=false):okV r k x v=true:=by simp[okV,h,a]
theorem jR{r:C1M}{k:Int}{x:C1L}{v:ByteArray}(h1:x.s≠1)(b:H1 (AD (DR r k)) v=false)(a:x.s≠2\/PL r k v=true):okV r k x v=false:=by
 rw[J0] at b
 rcases a with a|a<;>simp[okV,h1,b,a]
theorem rJ{r:C1M}{k:Int}{x:C1L}{v:ByteArray}(h1:IA x=true)(a:H1 (AD (DR r k)) v=false):okV r k x v=false:=by
 unfold IA at h1;simp only[Bool.and_eq_true,decide_eq_true_eq] at h1;exact jR (by omega) a (.inl (by omega))
theorem fX{r:C1M}{k:Int}{x:C1L}{v:ByteArray}(hc:BD x=true)(h1:IA x=false)(a:x.s≠2\/PL r k v=false):okV r k x v=true:=by
 have b:=mE hc;unfold IA at h1;rw[hc,Bool.true_and,decide_eq_false_iff_not] at h1
 rcases a with a|a
 ·exact fW (by omega)
 ·by_cases e:x.s=1
  ·exact fW e
  ·exact rI (by omega) a
theorem cE{l:List ByteArray}{p:ByteArray->Bool}(h:∀i,i<(AD l).length->∀y,(AD l)[i]?=some y->p y=true):l.all p=true:=by
 rw[List.all_eq_true];intro y hy;obtain⟨i,a⟩:=List.getElem?_of_mem (EW.2 hy);exact h i (lS a) y a
theorem mH{l:List ByteArray}{p:ByteArray->Bool}{i:Nat}{y:ByteArray}(a:(AD l)[i]?=some y)(h:p y=false):l.all p=false:=by
 rw[List.all_eq_false];exact⟨y,EW.1 (List.mem_of_getElem? a),by rw[h];simp⟩
theorem A0l{r:C1M}{k:Int}{x:C1L}(a:r.q[k.toNat]?=some x)(h:∀i,i<(AD (A6 x)).length->∀y,(AD (A6 x))[i]?=some y->okV r k x y=true):true=ZC r k:=by
 unfold ZC;rw[a];exact(cE h).symm
theorem rK{r:C1M}{k:Int}{x:C1L}{i:Nat}{y:ByteArray}(a:r.q[k.toNat]?=some x)(b:(AD (A6 x))[i]?=some y)(h:okV r k x y=false):false=ZC r k:=by
 unfold ZC;rw[a];exact(mH b h).symm
theorem T9{r:C1M}{k:Nat}{x:C1L}(h:r.q[k]?=some x)(h1:BD x=true)(b:k≠0\/x.s=1)(a:ZC r (k:Int)=true):GP r k=true:=by
 unfold ZC at a;rw[Int.toNat_natCast,h] at a;unfold GP;rw[h];simp only[h1,a,Bool.and_true,Bool.true_and];simpa using b
theorem W7{r:C1M}{k:Nat}{x:C1L}(h:r.q[k]?=some x)(h1:BD x=true)(a:k≠0\/x.s=1)(b:∀i,i<(AD (A6 x)).length->∀y,(AD (A6 x))[i]?=some y->okV r (k:Int) x y=true):GP r k=true:=
 T9 h h1 a (A0l (by rw[Int.toNat_natCast];exact h) b).symm
theorem W8{r:C1M}{k:Nat}{x:C1L}(h:r.q[k]?=some x)(h1:BD x=false):GP r k=false:=by simp[GP,h,h1]
theorem W9{r:C1M}{k:Nat}{x:C1L}(h:r.q[k]?=some x)(h0:k=0)(h1:x.s≠1):GP r k=false:=by subst h0;simp[GP,h,h1]
theorem RB{r:C1M}{k:Nat}{x:C1L}(h:r.q[k]?=some x)(a:ZC r (k:Int)=false):GP r k=false:=by
 unfold ZC at a;rw[Int.toNat_natCast,h] at a;unfold GP;rw[h];simp only[a,Bool.and_false]
theorem PM{r:C1M}{k i:Nat}{x:C1L}{y:ByteArray}(h:r.q[k]?=some x)(a:(AD (A6 x))[i]?=some y)(b:okV r (k:Int) x y=false):GP r k=false:=
 RB h (rK (by rw[Int.toNat_natCast];exact h) a b).symm
theorem wV{r:C1M}{a:Action}(h1:D3 a=true)(d:∀i,i<(AM a.p2.a).length->∀y,(AM a.p2.a)[i]?=some y->H1 (AD (DR r (r.q.length:Int))) y=true):IG r a=true:=by
 unfold IG;rw[h1,Bool.true_and,List.all_eq_true];intro y hy;obtain⟨i,b⟩:=List.getElem?_of_mem hy;rw[<-J0];exact d i (lS b) y b
theorem rL{r:C1M}{a:Action}(h1:D3 a=true)(b:∀i,i<(AD (AM a.p2.a)).length->∀y,(AD (AM a.p2.a))[i]?=some y->H1 (AD (DR r (r.q.length:Int))) y=true):IG r a=true:=by
 unfold IG;rw[h1,Bool.true_and];exact cE (λi d y e=>by rw[<-J0];exact b i d y e)
theorem cF{r:C1M}{a:Action}(h1:D3 a=false):IG r a=false:=by simp[IG,h1]
theorem cG{r:C1M}{a:Action}{i:Nat}{y:ByteArray}(b:(AM a.p2.a)[i]?=some y)(h:H1 (AD (DR r (r.q.length:Int))) y=false):IG r a=false:=by
 unfold IG;rw[J0] at h;have:(AM a.p2.a).all (λv=>H1 (DR r (r.q.length:Int)) v)=false:=by rw[List.all_eq_false];exact⟨y,List.mem_of_getElem? b,by rw[h];simp⟩
 rw[this,Bool.and_false]
theorem mI{r:C1M}{a:Action}{i:Nat}{y:ByteArray}(b:(AD (AM a.p2.a))[i]?=some y)(h:H1 (AD (DR r (r.q.length:Int))) y=false):IG r a=false:=by
 obtain⟨j,d⟩:=List.getElem?_of_mem (EW.1 (List.mem_of_getElem? b));exact cG d h
theorem IX{r:C1M}{k:Nat}{x:C1L}(h:r.q[k]?=some x):BW x<=AI BW r.q:=C8 (c:=BW) (List.mem_of_getElem? h)
theorem ZD{r:C1M}{k:Nat}{x:Action}(h:r.q0[k]?=some x):CV x<=AI CV r.q0:=C8 (c:=CV) (List.mem_of_getElem? h)
theorem jS{r:C1M}{k:Int}{v:ByteArray}{i:Nat}(hk:(i:Int)=k):SQ r k v i=false:=by
 unfold SQ
 split
 ·rfl
 ·simp[hk]
theorem A1q{l:List C1M}(h:l.length<=6)(a:∀i,i<l.length->JR l i=true):true=AR l:=by rw[<-A0k a,decide_eq_true h]
theorem A1r{l:List C1M}(a:∀i,i<l.length->JR l i=true):decide ((l.length:Int)<=6)=AR l:=by
 rw[<-A0k a,Bool.eq_iff_iff];simp;omega
def A8M(l:List C1M):C1P:=if AR l=true then⟨l,[],0,[],false,[]⟩ else⟨[],[],0,[],false,[]⟩
theorem A8h{l:List C1M}(h:AR l=true):(⟨l,[],0,[],false,[]⟩:C1P)=A8M l/\true=AR l:=by simp[A8M,h]
theorem A8i{l:List C1M}(h:AR l=false):(⟨[],[],0,[],false,[]⟩:C1P)=A8M l/\false=AR l:=by simp[A8M,h]
end Go.Sy
namespace Go.Sy
open Go
section
variable {α:Type} {f:Int->α->α} {c:α->Nat}
end
end Go.Sy
