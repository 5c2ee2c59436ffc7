/-
  Texts that are numbers; the order of atoms and facts; errors.
  Conditions: those that each theorem states.
-/
import Derived.Test.YtmjmglkogcomaaaGreatDoorFmt1
import Derived.Test.YtmjmglkogcomaaaGreatDoorRul
import Derived.Lib.Atoi
import Derived.Lib.Bytealg
import Derived.Lib.ItoaMem
import Derived.Stop.IfaceNil
import Derived.Lib.SmallJoins
namespace Go.Sy
open Go
def A1t(b:Bool)(e:Value):Prop:=(b=true/\∃te pe,e= .iface te pe)\/(b=false/\e= .nilIface)
section
variable {P:Program} {N:Nat} {w0:World} {H:List Chunk} {L:Fm} {Q:Exit->Act->World->Prop} {o:Oper} {d:Nat} {K:Act->World->Prop}
theorem xG{t f:TypeId}{x:Operand}{e:Value}{b:Bool}(c:P.isIface t=true)(g:o.op= .binOp .neq t x (.const .nilIface) f)(h:ev L x=some e)(i:A1t b e):C2 P N w0 H L o (.bool b):=by
 intro a w hf _;unfold execOp;rw[g];simp only[hf.ev h]
 rcases i with ⟨rfl,j,k,rfl⟩|⟨rfl,rfl⟩
 ·have:=run_neq_iface_nil w t c j k;simp[eqGuard,this,Act.eval]
 ·have:=run_neq_nil_nil_at w t c;simp[eqGuard,this,Act.eval]
theorem A1u{t b:TypeId}{x y:Operand}{m n:Int}(c:o.op= .binOp .mul t x y b)(e:ev L x=some (.int .i64 m))(f:ev L y=some (.int .i64 n))(g: -9223372036854775808<=m*n/\m*n<=9223372036854775807):C2 P N w0 H L o (.int .i64 (m*n)):=by
 intro a w hf _;unfold execOp;rw[c];simp only[hf.ev e,hf.ev f];simp[eqGuard,binOp,Op.intArith,IntWalk.i64_in _ g]
theorem xH{m:Int}(b:0<=m/\m<=255):IntKind.u8.wrap m=m:=by
 have h1:IntKind.u8.bits=8:=rfl;have a:IntKind.u8.signed=false:=rfl;simp only[IntKind.wrap,h1,a];simp;omega
theorem A1v{t b:TypeId}{x y:Operand}{m n:Int}(c:o.op= .binOp .sub t x y b)(e:ev L x=some (.int .u8 m))(f:ev L y=some (.int .u8 n))(g:0<=m-n/\m-n<=255):C2 P N w0 H L o (.int .u8 (m-n)):=by
 intro a w hf _;unfold execOp;rw[c];simp only[hf.ev e,hf.ev f];simp[eqGuard,binOp,Op.intArith,xH g]
theorem A5W{t c:TypeId}{x:Operand}{m:Int}(e:P.underlying c=some (.int .i64))(b:∃u,P.underlying t=some u)(f:o.op= .convert t c x)(g:ev L x=some (.int .u8 m))(h:0<=m/\m<=255):C2 P N w0 H L o (.int .i64 m):=by
 intro a w hf _;obtain⟨u,b⟩:=b;unfold execOp;rw[f];simp[convert,hf.ev g,run_underlying e,run_underlying b,Conv.intToInt,IntWalk.i64_in _ (show-9223372036854775808<=m/\m<=9223372036854775807 by omega)]
theorem cve{f:Nat}{C4k:List Operand}{vs:List Value}{b:Array TypeId}{g:Value->Value}{J:Value->Prop}(hb:AA P f=true)
  (h:o.op= .call ⟨.value (.func f),C4k.toArray,b⟩) (i:evs L C4k=some vs) (hd:o.dst=some d) (j:Nat.blt d N=true)
  (hc:∀w,St w0 H w->Calls P f vs.toArray w λe w'=>∃x,e= .returned (g x)/\J x/\Ex w w')
  (k:∀x,J x->D N w0 H ((d,g x)::L) K):D N w0 H L (λa w=>o.wp P a w K Q):=
 K7 (σ:=Value) (val:=g) (H':=λ_=>H) (J:=J) hb h i hd j
  (λw c=>(hc w c).mono λ_ _ ⟨x,he,hj,hx⟩=>⟨x,he,hj,c.ext hx⟩) k
end
theorem ME{b:UInt8}{d:Nat}(hb:Lib.digitVal b=some d):∀{l:List UInt8} {acc n:Nat},Lib.decFrom acc l=some n->Lib.decFrom acc (l++ [b])=some (n*10+d)
 | [],acc,n,h=>by simp only[Lib.decFrom,Option.some.injEq] at h;subst h;simp[Lib.decFrom,hb]
 | c::l,acc,n,h=>by
  simp only[List.cons_append,Lib.decFrom] at h⊢
  split at h
  ·exact ME hb h
  ·cases h
theorem A0m{d:Nat}(h:d<10):Lib.digitVal (UInt8.ofNat (48+d))=some d:=by
 have e:(UInt8.ofNat (48+d)).toNat=48+d:=by simp;omega
 unfold Lib.digitVal;rw[e,if_pos (by omega)]
 congr 1
 omega
theorem ZH(n:Nat):Lib.decFrom 0 (Lib.decDigits n)=some n:=by
 induction n using Nat.strongRecOn with
 | _ n ih=>
  by_cases h:n<10
  ·rw[Lib.decDigits_one h];simp only[Lib.decFrom,A0m h];simp
  ·rw[Lib.decDigits,dif_neg h,ME (A0m (by omega)) (ih (n/10) (by omega))]
   congr 1
   omega
theorem ZI:∀{l:List UInt8} {acc n:Nat},Lib.decFrom acc l=some n->∀b∈l,Lib.digitVal b≠none
 | [],_,_,_,b,a=>by cases a
 | c::l,acc,n,h,b,a=>by
  simp only[Lib.decFrom] at h
  split at h
  ·rename_i d hd
   rcases List.mem_cons.1 a with rfl|a
   ·rw[hd];simp
   ·exact ZI h b a
  ·cases h
theorem A1w(n:Nat):Lib.decDigits n≠ []:=by
 intro e;have:=Lib.decDigits_length n;rw[e] at this;have:=Lib.nDigits_pos n;simp at*;omega
theorem rR(n:Nat):Lib.atoi (Lib.decDigits n)=some (n:Int):=by
 have h1:=ZH n;have f:=A1w n
 cases e:Lib.decDigits n with
 |nil=>exact absurd e f
 | cons b r=>
  rw[e] at h1;have c:=ZI h1 b (by simp);have a:48<=b.toNat/\b.toNat<=57:=by
   unfold Lib.digitVal at c
   split at c
   ·assumption
   ·exact absurd rfl c
  have n1:(b==45)=false:=by
   rw[beq_eq_false_iff_ne];intro e;rw[e] at a;exact absurd a.1 (by decide)
  have g:(b==43)=false:=by
   rw[beq_eq_false_iff_ne];intro e;rw[e] at a;exact absurd a.1 (by decide)
  simp only[Lib.atoi,n1,g,Lib.decNat];simp[h1]
theorem MF(n:Nat):(ES (n:Int)).data.toList=Lib.decDigits n:=by
 unfold ES;rw[Lib.itoa_nonneg]
theorem RL(n:Nat):Lib.atoi (ES (n:Int)).data.toList=some (n:Int):=by rw[MF];exact rR n
theorem mO{n:Nat}(h:n<=9999):1<=(ES (n:Int)).size/\(ES (n:Int)).size<=4:=by
 have e:(ES (n:Int)).size=Lib.nDigits n:=by
  have h1:=congrArg List.length (MF n);rw[Lib.decDigits_length,Array.length_toList] at h1;exact h1
 rw[e];refine⟨Lib.nDigits_pos n,?_⟩
 by_cases h1:n<10
 ·rw[Lib.nDigits_small h1];omega
 ·rw[Lib.nDigits_big h1]
  by_cases a:n/10<10
  ·rw[Lib.nDigits_small a];omega
  ·rw[Lib.nDigits_big a]
   by_cases b:n/10/10<10
   ·rw[Lib.nDigits_small b];omega
   ·rw[Lib.nDigits_big b,Lib.nDigits_small (by omega)];omega
def pNb(m:Nat)(s:ByteArray):Option Nat:=(List.range m).find? (λn=>decide (ES (n:Int)=s))
theorem A5X{s:ByteArray}{m:Nat}(h:∀n:Nat,n<m->ES (n:Int)≠s):pNb m s=none:=by
 unfold pNb;rw[List.find?_eq_none];intro n hn;simpa using h n (List.mem_range.1 hn)
theorem A5Y{s:ByteArray}{n m:Nat}(h1:n<m)(a:ES (n:Int)=s):pNb m s=some n:=by
 cases h:pNb m s with
 | none=>
  unfold pNb at h;rw[List.find?_eq_none] at h;exact absurd (by simpa using a) (h n (List.mem_range.2 h1))
 | some q=>
  unfold pNb at h;have:=List.find?_some h;have c:ES (q:Int)=s:=by simpa using this
  have h1:=RL q;have b:=RL n;rw[c] at h1;rw[a,h1] at b;simp only[Option.some.injEq] at b
  congr 1
  omega
def pQ(m:Nat)(s:ByteArray):Int × Bool:=match pNb m s with|some n=>((n:Int),true)|none=>(0,false)
theorem A7a{s:ByteArray}{m:Nat}(h:∀n:Nat,n<m->ES (n:Int)≠s):pQ m s=(0,false):=by unfold pQ;rw[A5X h]
theorem A7b{s:ByteArray}{n m:Nat}(h1:n<m)(a:ES (n:Int)=s):pQ m s=((n:Int),true):=by unfold pQ;rw[A5Y h1 a]
@[irreducible] def pI (s : ByteArray) : Int := (pQ 10000 s).1
@[irreducible] def pO (s : ByteArray) : Bool := (pQ 10000 s).2
theorem XD{s:ByteArray}(h:∀n:Nat,n<=9999->ES (n:Int)≠s):0=pI s/\false=pO s:=by
 unfold pI pO;rw[A7a (λn a=>h n (by omega))];exact⟨rfl,rfl⟩
theorem xI{s:ByteArray}{n:Int}(h0:0<=n)(h1:n<=9999)(e:ES n=s):n=pI s/\true=pO s:=by
 have a:ES (n.toNat:Int)=s:=by rw[Int.toNat_of_nonneg h0];exact e
 unfold pI pO;rw[A7b (n:=n.toNat) (by omega) a];exact⟨by show n=(n.toNat:Int);omega,rfl⟩
theorem XE{s:ByteArray}(h:(s.size:Int)<1\/4<(s.size:Int)):0=pI s/\false=pO s:=XD λn a e=>by
 have:=mO a;rw[e] at this;omega
def aN(s:ByteArray):Int:=(Lib.atoi s.data.toList).getD 0
def aE(s:ByteArray):Bool:=(Lib.atoi s.data.toList).isNone
theorem ZJ{s:ByteArray}{n:Nat}(e:ES (n:Int)=s):aE s=false/\aN s=(n:Int):=by
 have:=RL n;rw[e] at this;simp[aE,aN,this]
theorem A0n{s:ByteArray}(h:aE s=true):0=pI s/\false=pO s:=XD λn a e=>by rw[(ZJ e).1] at h;cases h
theorem ZK{s:ByteArray}(h:aN s<0\/9999<aN s):0=pI s/\false=pO s:=XD λn a e=>by rw[(ZJ e).2] at h;omega
theorem A0o{s:ByteArray}(h:¬ES (aN s)=s):0=pI s/\false=pO s:=XD λn a e=>by rw[(ZJ e).2] at h;exact h e
theorem A1x(s:ByteArray)(h:s.size<=4): -99999<=aN s/\aN s<=99999:=by
 have key:∀(l:List UInt8) (acc n:Nat),Lib.decFrom acc l=some n->n<(acc+1)*10^l.length:=by
  intro l
  induction l with
  |nil=>intro acc n h;simp only[Lib.decFrom,Option.some.injEq] at h;subst h;simp
  | cons b l ih=>
   intro acc n h;simp only[Lib.decFrom] at h
   split at h
   ·rename_i d hd;have f:=ih _ _ h;have g:d<=9:=by
     unfold Lib.digitVal at hd
     split at hd
     ·simp only[Option.some.injEq] at hd;omega
     ·cases hd
    rw[List.length_cons,Nat.pow_succ]
    calc n<(acc*10+d+1)*10^l.length:=f
     _<=((acc+1)*10)*10^l.length:=Nat.mul_le_mul_right _ (by omega)
     _=(acc+1)*(10^l.length*10):=by rw[Nat.mul_assoc,Nat.mul_comm 10]
   ·cases h
 have c:∀(l:List UInt8) (n:Nat),l.length<=4->Lib.decNat l=some n->n<=9999:=by
  intro l n hl h;unfold Lib.decNat at h
  split at h
  ·cases h
  ·have:=key l 0 n h;have:10^l.length<=10^4:=Nat.pow_le_pow_right (by omega) hl;omega
 have hl:s.data.toList.length<=4:=by rw[Array.length_toList];exact h
 unfold aN
 cases e:Lib.atoi s.data.toList with
 |none=>simp
 | some n=>
  simp only[Option.getD_some]
  cases hs:s.data.toList with
  |nil=>rw[hs] at e;simp[Lib.atoi] at e
  | cons b r=>
   rw[hs] at e hl;rw[List.length_cons] at hl;simp only[Lib.atoi] at e
   split at e
   ·simp only[Option.map_eq_some_iff] at e;obtain⟨m,a,rfl⟩:=e;have:=c r m (by omega) a;omega
   ·split at e
    ·simp only[Option.map_eq_some_iff] at e;obtain⟨m,a,rfl⟩:=e;have:=c r m (by omega) a;omega
    ·simp only[Option.map_eq_some_iff] at e;obtain⟨m,a,rfl⟩:=e;have:=c (b::r) m (by simpa using hl) a;omega
def dvT(s:ByteArray)(k:Nat)(n:Int):Prop:=0<=n/\n<(10^k:Nat)/\Lib.decFrom 0 (s.data.toList.take k)=some n.toNat
theorem rS(s:ByteArray):dvT s 0 0:=⟨by omega,by decide,by simp[Lib.decFrom]⟩
theorem rT{s:ByteArray}{k:Nat}(h:k<s.size):∃b,s.data.toList[k]?=some b/\sB s k=(b.toNat:Int):=by
 have a:k<s.data.size:=h;refine⟨s.data[k],by simp,?_⟩;unfold sB;rw[Array.getElem?_eq_getElem a];rfl
theorem rU{s:ByteArray}{k:Nat}{n:Int}(h:dvT s k n)(hk:k<s.size)(h1:¬sB s k<48)(g:¬57<sB s k):dvT s (k+1) (10*n+(sB s k-48)):=by
 obtain⟨a,b,c⟩:=h;obtain⟨u,e,i⟩:=rT hk;have f:Lib.digitVal u=some (u.toNat-48):=by unfold Lib.digitVal;rw[if_pos (by omega)]
 refine⟨by omega,?_,?_⟩
 ·rw[Nat.pow_succ];omega
 ·rw[A1 e,ME f c]
  congr 1
  omega
theorem ZL{s:ByteArray}{k:Nat}(hk:k<s.size)(h:sB s k<48\/57<sB s k):0=pI s/\false=pO s:=XD λn c e=>by
 obtain⟨u,a,b⟩:=rT hk;have h1:=ZH n;rw[<-MF,e] at h1;have:=ZI h1 u (List.mem_of_getElem? a);unfold Lib.digitVal at this;rw[if_neg (by omega)] at this;exact this rfl
theorem A0p{s:ByteArray}{k:Nat}{n:Int}(h:dvT s k n)(hk:s.size<=k)(f:¬ES n=s):0=pI s/\false=pO s:=XD λm g e=>by
 obtain⟨a,b,c⟩:=h;have hl:s.data.toList.length<=k:=by rw[Array.length_toList];exact hk
 rw[List.take_of_length_le hl] at c;have h1:=ZH m;rw[<-MF,e,c] at h1;simp only[Option.some.injEq] at h1
 apply f
 rw[<-e]
 congr 1
 omega
theorem rV{s:ByteArray}{k:Nat}{n:Int}(h:dvT s k n)(hk:k<=4):0<=n/\n<=9999:=by
 obtain⟨a,b,c⟩:=h;have:10^k<=10^4:=Nat.pow_le_pow_right (by omega) hk;omega
def DN(a b:Int):Int:=if a<b then-1 else if b<a then 1 else 0
def PT(a b:ByteArray):Int:=if JE a b=true then-1 else if JE b a=true then 1 else 0
theorem XF:∀a b:List UInt8,Lib.compareBytes a b=if Op.bytesLess a b=true then-1 else if Op.bytesLess b a=true then 1 else 0
 | [],[]=>rfl
 | [],_::_=>rfl
 |_::_,[]=>rfl
 | x::a,y::b=>by
  rw[Lib.compareBytes,XF a b];simp only[Op.bytesLess]
  by_cases h1:x<y
  ·simp[h1]
  ·by_cases c:y<x
   ·have e:(x==y)=false:=by rw[beq_eq_false_iff_ne];intro e;subst e;exact h1 c
    simp[h1,c,e]
   ·have e:x=y:=by
     have f:¬x.toNat<y.toNat:=h1;have g:¬y.toNat<x.toNat:=c;exact UInt8.toNat_inj.1 (by omega)
    subst e;simp[h1]
theorem xJ(a b:ByteArray):Lib.compareBytes a.data.toList b.data.toList=PT a b:=by
 rw[XF];unfold PT JE;rw[W5,W5]
theorem rW{a b:ByteArray}(h:a≠b):PT a b≠0:=by
 unfold PT
 split
 ·omega
 ·split
  ·omega
  ·rename_i h1 c;exact absurd (QD (by simpa using h1) (by simpa using c)) h
theorem A1y{a b:ByteArray}(h:JE a b=false)(c:¬a=b):1=PT a b:=by
 have f:JE b a=true:=by
  cases e:JE b a with
  |true=>rfl
  |false=>exact absurd (QD h e) c
 unfold PT;simp[h,f]
theorem UI(a:ByteArray):PT a a=0:=by unfold PT;simp[HQ]
def GX(a b:ByteArray):Int:=if pO a=true/\pO b=true then DN (pI a) (pI b) else if pO a=true then-1 else if pO b=true then 1 else PT a b
def cmpL:List ByteArray->List ByteArray->Int
 | [],[]=>0
 | [],_::_=> -1
 |_::_,[]=>1
 |a::l,b::m=>if GX a b=0 then cmpL l m else GX a b
def HS(f g:C1G):Int:=if f.p5=g.p5 then cmpL f.a g.a else PT f.p5 g.p5
theorem XG:∀{l m:List ByteArray} {k:Nat} {a b:ByteArray},(∀(i:Nat),i<k->∀(x y:ByteArray),l[i]?=some x->m[i]?=some y->GX x y=0)->l[k]?=some a->m[k]?=some b->GX a b≠0->GX a b=cmpL l m
 | [],_,_,_,_,_,h,_,_=>by simp at h
 |_::_,[],_,_,_,_,_,h,_=>by simp at h
 | x::l,y::m,0,a,b,_,h1,c,e=>by
  simp only[List.getElem?_cons_zero,Option.some.injEq] at h1 c;subst h1;subst c;simp[cmpL,e]
 | x::l,y::m,k+1,a,b,h,h1,c,e=>by
  simp only[List.getElem?_cons_succ] at h1 c;rw[cmpL,if_pos (h 0 (by omega) x y rfl rfl)];exact XG (λi j x y f g=>h (i+1) (by omega) x y (by simpa using f) (by simpa using g)) h1 c e
theorem cK:∀{l m:List ByteArray},(∀(i:Nat) (x y:ByteArray),l[i]?=some x->m[i]?=some y->GX x y=0)->DN (l.length:Int) (m.length:Int)=cmpL l m
 | [],[],_=>by simp[DN,cmpL]
 | [],_::_,_=>by simp[DN,cmpL]<;>omega
 |_::_,[],_=>by simp[DN,cmpL]<;>omega
 | x::l,y::m,h=>by
  rw[cmpL,if_pos (h 0 x y rfl rfl),<-cK (λi a b c e=>h (i+1) a b (by simpa using c) (by simpa using e))];unfold DN;simp only[List.length_cons]
  split<;>split<;>(try split)<;>(try split)<;>omega
theorem gC{a b:ByteArray}(h:PT a b=0):a=b:=Classical.byContradiction λe=>rW e h
theorem rX{f g:C1G}(h:¬PT f.p5 g.p5=0):PT f.p5 g.p5=HS f g:=by
 unfold HS;rw[if_neg (λe=>h (by rw[e];exact UI _))]
theorem xK{f g:C1G}(h:¬f.p5=g.p5):PT f.p5 g.p5=HS f g:=by
 unfold HS;rw[if_neg h]
theorem cL{f g:C1G}{k:Nat}{a b:ByteArray}(c:f.p5=g.p5)(h:∀(i:Nat),i<k->∀(x y:ByteArray),f.a[i]?=some x->g.a[i]?=some y->GX x y=0)(e:f.a[k]?=some a)(hb:g.a[k]?=some b)(j:¬GX a b=0):GX a b=HS f g:=by
 unfold HS;rw[if_pos c];exact XG h e hb j
theorem I9{f g:C1G}(b:f.p5=g.p5)(h:∀(i:Nat) (x y:ByteArray),f.a[i]?=some x->g.a[i]?=some y->GX x y=0):DN (f.a.length:Int) (g.a.length:Int)=HS f g:=by
 unfold HS;rw[if_pos b];exact cK h
end Go.Sy
namespace Go.Sy
open Go Go.RowKit
structure ISet where
  l:List Int
def ISet.has(s:ISet)(z:Int):Bool:=s.l.contains z
def ISet.add(s:ISet)(z:Int):ISet:=⟨s.l++ [z]⟩
def SX(l:List Int):List (Value × Value):=l.map (λx=>(Value.int .i64 x,Value.bool true))
def A5Z(w:World)(cs:List Value)(x:ISet)(fp:List Nat):Prop:=
 ∃(g:Nat) (es:Array MapEntry) (clock:Nat),cs=[.map (some g)]/\fp=[g]/\w.heap[g]?=some (.map es clock)/\es.toList.map (λe=>(e.key,e.val))=SX x.l
instance instISet:Gd ISet where
 n:=1
 st:=false
 rd:=λ_ cs _=>∃g,cs=[.map (some g)]
 ow:=A5Z
 rd_len:=λh=>by obtain⟨g,e⟩:=h;rw[e];rfl
 rd_one:=λh u hu=>by obtain⟨g,e⟩:=h;rw[e] at hu;simp only[List.mem_singleton] at hu;rw[hu];rfl
 rd_sub:=λ_ h=>h
 ow_loc:=λh hs=>by
  obtain⟨g,es,c,h1,h2,h3,h4⟩:=h;exact⟨g,es,c,h1,h2,by rw[hs g (by rw[h2];simp)];exact h3,h4⟩
 ow_lt:=λh k hk=>by
  obtain⟨g,es,c,h1,h2,h3,h4⟩:=h;rw[h2] at hk;simp only[List.mem_singleton] at hk;rw[hk]
  rcases Nat.lt_or_ge g (_:World).heap.size with hh|hh
  ·exact hh
  ·rw[Array.getElem?_eq_none hh] at h3;cases h3
 ow_rd:=λh=>by obtain⟨g,_,_,h1,_⟩:=h;exact⟨g,h1⟩
theorem rY(z:Int):∀(es:List MapEntry) (l:List Int) (i:Nat),es.map (λe=>(e.key,e.val))=SX l->l.contains z=true->∃j,Instr.findNow (.int .i64) (.int .i64 z) es i=some (some (j, .bool true))
 | [],[],_,_,h=>by simp at h
 | [],_::_,_,h,_=>by simp[SX] at h
 |_::_,[],_,h,_=>by simp[SX] at h
 | e::es,x::l,i,h,hc=>by
  simp only[SX,List.map_cons,List.cons.injEq,Prod.mk.injEq] at h;obtain⟨⟨h1,a⟩,b⟩:=h;unfold Instr.findNow;rw[h1];simp only[Instr.sameNow,if_true]
  by_cases hz:z=x
  ·subst hz;simp[a]
  ·have c:(z==x)=false:=by simpa using hz
   rw[c];refine rY z es l (i+1) b ?_;simpa [hz] using hc
theorem gD(z:Int):∀(es:List MapEntry) (l:List Int) (i:Nat),es.map (λe=>(e.key,e.val))=SX l->l.contains z=false->Instr.findNow (.int .i64) (.int .i64 z) es i=some none
 | [],[],_,_,_=>rfl
 | [],_::_,_,h,_=>by simp[SX] at h
 |_::_,[],_,h,_=>by simp[SX] at h
 | e::es,x::l,i,h,hc=>by
  simp only[SX,List.map_cons,List.cons.injEq,Prod.mk.injEq] at h;obtain⟨⟨h1,f⟩,b⟩:=h;have a:¬z=x/\l.contains z=false:=by simpa using hc
  unfold Instr.findNow;rw[h1];simp only[Instr.sameNow,if_true];have c:(z==x)=false:=by simpa using a.1
  rw[c];exact gD z es l (i+1) b a.2
section
variable {P:Program} {N:Nat} {w0:World} {H:List Chunk} {L:Fm} {Q:Exit->Act->World->Prop} {o:Oper} {d:Nat} {K:Act->World->Prop}
theorem gF{w:World}{r:Nat}{es:Array MapEntry}{clock:Nat}(h:w.heap[r]?=some (.map es clock)):(getObj r).run P w= .ok (.map es clock) w:=by simp[getObj,Sem.run,h]
theorem A1z{w:World}{r:Nat}{es:Array MapEntry}{clock:Nat}(a:Obj)(h:w.heap[r]?=some (.map es clock)):(setObj r a).run P w= .ok () {w with heap:=w.heap.setIfInBounds r a}:=by simp[setObj,Sem.run,h]
theorem xL{t:TypeId}(c:o.op= .makeMap t none)(hd:o.dst=some d)(e:Nat.blt d N=true)(k:∀g,D N w0 (ov [.map (some g)] (⟨[]⟩:ISet)::H) ((d, .map (some g))::L) K):D N w0 H L (λa w=>o.wp P a w K Q):=by
 refine KQ hd e (λa w i f=>⟨.map (some w.heap.size),w.alloc (.map #[] 0),?_,λh b=>k _ h _ b (f.push (fp:=[w.heap.size]) (Ex.alloc w _) ⟨_, #[],0,rfl,rfl,heap_alloc_new w _,rfl⟩ (by simp) ?_)⟩)
 ·unfold execOp;rw[c];simp[Instr.makeMap]
 ·intro g hg;simp only[List.mem_singleton] at hg;subst hg;simp
theorem run_checkKey(w:World){key:TypeId}(hk:P.underlying key=some (.int .i64))(b:Bool)(z:Int):(Instr.checkKey b 10000 key (.int .i64 z)).run P w= .ok () w:=by
 have h:∀n:Nat,(Instr.checkKey b (n+1) key (.int .i64 z)).run P w= .ok () w:=λn=>by
  rw[Instr.checkKey];simp[run_underlying hk]
 exact h 9999
theorem rZ{t key elem g:Nat}{x y:Operand}{z:Int}{s:ISet}(k:Nat)(h:P.underlying t=some (.map key elem))(b:P.underlying key=some (.int .i64))(e:BV P elem=some (.bool false))(r:o.op= .lookup t x y false)(m:ev L x=some (.map (some g)))(n:ev L y=some (.int .i64 z))
  (hk:H[k]?=some (ov [.map (some g)] s)):C2 P N w0 H L o (.bool (s.has z)):=by
 intro a w hf hs;obtain⟨fp,⟨v,es,c,h1,u,p,q⟩,_⟩:=hs.at hk;simp only[List.cons.injEq,and_true,Value.map.injEq,Option.some.injEq] at h1;subst h1;unfold BV at e;unfold execOp;rw[r]
 cases hi:P.info? elem with
 |none=>rw[hi] at e;simp at e
 | some i=>
  rw[hi] at e;simp only[Option.bind_some] at e;unfold ISet.has
  cases hc:s.l.contains z with
  | true=>
   obtain⟨j,f⟩:=rY z es.toList s.l 0 q hc;simp[Instr.lookup,hf.ev m,hf.ev n,run_underlying h,gF p,run_checkKey w b,Instr.findKey,run_underlying b,f]
  | false=>
   have f:=gD z es.toList s.l 0 q hc;simp[Instr.lookup,hf.ev m,hf.ev n,run_underlying h,gF p,run_checkKey w b,Instr.findKey,run_underlying b,f,zeroValue,typeInfo,hi,e]
theorem xM{t key elem g:Nat}{x y v:Operand}{z:Int}{s:ISet}(k:Nat)(ht:P.underlying t=some (.map key elem))(b:P.underlying key=some (.int .i64))(ho:o.op= .mapUpdate t x y v)(hx:ev L x=some (.map (some g)))(hy:ev L y=some (.int .i64 z))(hv:ev L v=some (.bool true))(hd:o.dst=none)
  (hk:H[k]?=some (ov [.map (some g)] s)) (hn:s.has z=false) (r:D N w0 (H.set k (ov [.map (some g)] (s.add z))) L K):D N w0 H L (λa w=>o.wp P a w K Q):=by
 refine TF hd (λa w f hs=>?_);obtain⟨fp,⟨g',es,c,h1,h2,u,h4⟩,a0,hb,m⟩:=hs.set hk;simp only[List.cons.injEq,and_true,Value.map.injEq,Option.some.injEq] at h1;subst h1;subst h2;have j:g<w.heap.size:=(hb g (by simp)).2;have hj:=gD z es.toList s.l 0 h4 hn;refine⟨{w with heap:=w.heap.setIfInBounds g (.map (es.push {key:= .int .i64 z,val:= .bool true,born:=c}) (c+1))},?_,λa' h=>r a' _ h (m _ (ov [.map (some g)] (s.add z)) [g] ⟨rfl,rfl,rfl,by simp,λq n i=>?_⟩ ?_ (by simp) (λq n=>⟨.inl n,by have:=hb q n;simpa using this.2⟩))⟩
 ·unfold execOp;rw[ho];simp[Instr.mapUpdate,f.ev hx,f.ev hy,f.ev hv,run_underlying ht,gF u,run_checkKey w b,Instr.findKey,run_underlying b,hj,A1z _ u]
 ·have p:g≠q:=λe=>i (by simp[e])
  simp[p]
 ·refine⟨g,es.push {key:= .int .i64 z,val:= .bool true,born:=c},c+1,rfl,rfl,by simp[j],?_⟩;have e:SX (s.add z).l=SX s.l++ [(Value.int .i64 z,Value.bool true)]:=by simp[SX,ISet.add]
  rw[e,<-h4];simp
end
end Go.Sy
namespace Go.Sy
open Go
def GA(l:List C1G)(k:Nat):Bool:=match l[k]? with
 |none=>false
 |some f=>BI f&&(decide (k=0)||(match l[k-1]? with|none=>false|some p=>decide (HS p f<0)))
def AW(l:List C1G):Bool:=decide (l.length<=24)&&(List.range l.length).all (GA l)
theorem UJ{l:List C1G}{k:Nat}{f:C1G}(h:l[k]?=some f)(h1:BI f=true)(hk:k=0):GA l k=true:=by subst hk;simp[GA,h,h1]
theorem UK{l:List C1G}{k j:Nat}{f p:C1G}(h:l[k]?=some f)(hp:l[j]?=some p)(a:j=k-1)(h1:BI f=true)(hc:HS p f<0):GA l k=true:=by subst a;simp[GA,h,h1,hp,hc]
theorem XH{l:List C1G}{k:Nat}{f:C1G}(h:l[k]?=some f)(h1:BI f=false):GA l k=false:=by simp[GA,h,h1]
theorem XI{l:List C1G}{k j:Nat}{f p:C1G}(h:l[k]?=some f)(hp:l[j]?=some p)(a:j=k-1/\0<k)(hc:¬HS p f<0):GA l k=false:=by
 obtain⟨rfl,b⟩:=a;have:k≠0:=by omega
 simp[GA,h,hp,hc,this]
theorem A5a{l:List C1G}(h:¬l.length<=24):false=AW l:=by unfold AW;rw[decide_eq_false h];rfl
theorem jV{l:List C1G}{k:Nat}(hk:k<l.length)(h:GA l k=false):false=AW l:=by
 unfold AW;have:(List.range l.length).all (GA l)=false:=by rw[List.all_eq_false];exact⟨k,by simpa using hk,by rw[h];simp⟩
 rw[this];simp
theorem sA{l:List C1G}(a:∀i,i<l.length->GA l i=true):decide (l.length<=24)=AW l:=by
 unfold AW;have:(List.range l.length).all (GA l)=true:=by rw[List.all_eq_true];intro i h;exact a i (by simpa using h)
 rw[this];simp
theorem A7c{l:List C1G}(h:l.length<=24)(a:∀i,i<l.length->GA l i=true):true=AW l:=by rw[<-sA a,decide_eq_true h]
theorem A7d{l:List C1G}(a:∀i,i<l.length->GA l i=true):decide ((l.length:Int)<=24)=AW l:=by rw[<-sA a,Bool.eq_iff_iff];simp;omega
theorem jW{l:List C1N}(h:LR MA l):LR P9 (l.map (·.j)):=λf a=>by
 obtain⟨s,b,rfl⟩:=List.mem_map.1 a;exact(h s b).1
def LU(l:List C1N)(k:Nat):ISet:=⟨(l.take k).map (·.q1)⟩
theorem gG{l:List C1N}{k:Nat}{s:C1N}(h:l[k]?=some s):ISet.add (LU l k) s.q1=LU l (k+1):=by
 unfold LU ISet.add;rw[A1 h,List.map_append];rfl
def HE(l:List C1N)(k:Nat):Bool:=match l[k]? with|none=>false|some s=>GO s.q1 1 200&& !((LU l k).has s.q1)
def C5(l:List C1N):Bool:=(List.range l.length).all (HE l)&&AW (l.map (·.j))
theorem cM{l:List C1N}{k:Nat}{s:C1N}(h:l[k]?=some s)(h1:GO s.q1 1 200=true)(a:(LU l k).has s.q1=false):HE l k=true:=by simp[HE,h,h1,a]
theorem RN{l:List C1N}{k:Nat}{s:C1N}(h:l[k]?=some s)(h1:GO s.q1 1 200=false):HE l k=false:=by simp[HE,h,h1]
theorem XJ{l:List C1N}{k:Nat}{s:C1N}(h:l[k]?=some s)(a:(LU l k).has s.q1=true):HE l k=false:=by simp[HE,h,a]
theorem cN{l:List C1N}{k:Nat}{z:Int}:(LU l k).has z=true↔∃i,i<k/\∃q,l[i]?=some q/\q.q1=z:=by
 unfold LU ISet.has;rw[List.contains_iff_mem,List.mem_map]
 constructor
 ·rintro⟨q,b,e⟩;obtain⟨i,a⟩:=List.getElem?_of_mem b;rw[List.getElem?_take] at a
  split at a
  ·exact⟨i,by assumption,q,a,e⟩
  ·cases a
 ·rintro⟨i,a,q,b,e⟩;refine⟨q,List.mem_of_getElem? (i:=i) ?_,e⟩;rw[List.getElem?_take,if_pos a];exact b
theorem cO{l:List C1N}{k:Nat}{s:C1N}(h:l[k]?=some s)(h1:GO s.q1 1 200=true)(a:∀i,i<k->∀q,l[i]?=some q->q.q1≠s.q1):HE l k=true:=by
 refine cM h h1 ?_;rw[Bool.eq_false_iff];intro hc;obtain⟨i,b,q,c,e⟩:=cN.1 hc;exact a i b q c e
theorem XK{l:List C1N}{k j:Nat}{s q:C1N}(h:l[k]?=some s)(a:l[j]?=some q)(b:j<k)(e:q.q1=s.q1):HE l k=false:=XJ h (cN.2 ⟨j,b,q,a,e⟩)
theorem cP{l:List C1N}{k:Nat}(hk:k<l.length)(h:HE l k=false):false=C5 l:=by
 unfold C5;have:(List.range l.length).all (HE l)=false:=by rw[List.all_eq_false];exact⟨k,by simpa using hk,by rw[h];simp⟩
 rw[this];rfl
theorem A0q{l:List C1N}(a:∀i,i<l.length->HE l i=true):AW (l.map (·.j))=C5 l:=by
 unfold C5;have:(List.range l.length).all (HE l)=true:=by rw[List.all_eq_true];intro i h;exact a i (by simpa using h)
 rw[this];simp
theorem QI(l:List C1M)(n:ByteArray): -1<=BN l n/\BN l n<l.length:=by
 unfold BN
 split
 ·omega
 ·rename_i i h;have:=(List.findIdx?_eq_some_iff_getElem.1 h).1;omega
def KZ(l:List C1L)(k:Nat):Nat:=((l.take k).filter (λx=>decide (x.s=1))).length
def gH(r:C1M):Nat:=KZ r.q r.q.length
theorem jX{l:List C1L}{k:Nat}{x:C1L}(h:l[k]?=some x)(hk:x.s=1):KZ l k+1=KZ l (k+1):=by
 unfold KZ;rw[A1 h,List.filter_append];simp[hk]
theorem jY{l:List C1L}{k:Nat}{x:C1L}(h:l[k]?=some x)(hk:x.s≠1):KZ l k=KZ l (k+1):=by
 unfold KZ;rw[A1 h,List.filter_append];simp[hk]
theorem cQ(l:List C1L)(k:Nat):KZ l k<=k:=by
 unfold KZ;have h1:=List.length_filter_le (λx=>decide (x.s=1)) (l.take k);rw[List.length_take] at h1;omega
theorem XL{r:C1M}{k c:Nat}(hc:c=KZ r.q k)(h1:k<=r.q.length)(a:r.q.length<=k):c=gH r:=by rw[hc,show k=r.q.length by omega];rfl
def JS(e:C1P)(f:C1O):Bool:=match e.p8[(BN e.p8 f.p7).toNat]? with
 |none=>false
 |some r=>decide (0<=BN e.p8 f.p7)&&(decide (f.q2.length=gH r)&&f.q2.all (λt=>GO t 1 e.g))
theorem A0r{e:C1P}{f:C1O}(h:BN e.p8 f.p7<0):false=JS e f:=by
 unfold JS
 split
 ·rfl
 ·have:¬0<=BN e.p8 f.p7:=by omega
  simp[this]
theorem sC{e:C1P}{f:C1O}{i:Nat}{t:Int}(h:f.q2[i]?=some t)(a:GO t 1 e.g=false):false=JS e f:=by
 unfold JS
 split
 ·rfl
 ·have:f.q2.all (λt=>GO t 1 e.g)=false:=by rw[List.all_eq_false];exact⟨t,List.mem_of_getElem? h,by rw[a];simp⟩
  rw[this];simp
theorem A5b{e:C1P}{f:C1O}{r:C1M}(a:e.p8[(BN e.p8 f.p7).toNat]?=some r)(h:f.q2.length≠gH r):false=JS e f:=by
 unfold JS;rw[a];simp[h]
theorem sD{e:C1P}{f:C1O}{r:C1M}(b:e.p8[(BN e.p8 f.p7).toNat]?=some r)(h0:0<=BN e.p8 f.p7)(h:∀i,i<f.q2.length->∀t,f.q2[i]?=some t->GO t 1 e.g=true):decide (f.q2.length=gH r)=JS e f:=by
 unfold JS;rw[b];have:f.q2.all (λt=>GO t 1 e.g)=true:=by
  rw[List.all_eq_true];intro t ht;obtain⟨i,a⟩:=List.getElem?_of_mem ht;exact h i (lS a) t a
 simp[this,h0]
theorem A5c{e:C1P}{f:C1O}{r:C1M}{c:Nat}(a:e.p8[(BN e.p8 f.p7).toNat]?=some r)(h0:0<=BN e.p8 f.p7)(h:∀i,i<f.q2.length->∀t,f.q2[i]?=some t->GO t 1 e.g=true)(hc:c=gH r):((f.q2.length:Int)==(c:Int))=JS e f:=by
 rw[<-sD a h0 h,hc,Bool.eq_iff_iff];simp;omega
theorem A7e{e:C1P}{f:C1O}{r:C1M}(a:e.p8[(BN e.p8 f.p7).toNat]?=some r)(h0:0<=BN e.p8 f.p7)(h:∀i,i<f.q2.length->∀t,f.q2[i]?=some t->GO t 1 e.g=true)(hc:f.q2.length=gH r):true=JS e f:=by
 rw[<-sD a h0 h,decide_eq_true hc]
def MG(l:List C1O)(r:ByteArray)(ts:List Int):Bool:=l.any (λf=>decide (f.p7=r)&&decide (f.q2=ts))
theorem gI{l:List C1O}{r:ByteArray}{ts:List Int}{i:Nat}{f:C1O}(h:l[i]?=some f)(h1:f.p7=r)(a:f.q2=ts):true=MG l r ts:=by
 symm;unfold MG;rw[List.any_eq_true];exact⟨f,List.mem_of_getElem? h,by simp[h1,a]⟩
theorem gJ{l:List C1O}{r:ByteArray}{ts:List Int}(h:∀i,i<l.length->∀f,l[i]?=some f->¬(f.p7=r/\f.q2=ts)):false=MG l r ts:=by
 symm;unfold MG;rw[List.any_eq_false];intro f hf
 obtain⟨i,a⟩:=List.getElem?_of_mem hf;have:=h i (lS a) f a;simpa using this
def KD(e:C1P)(k:Nat):Bool:=match e.m[k]? with|none=>false|some f=>JS e f&& !(MG (e.m.take k) f.p7 f.q2)
def HT(e:C1P):Bool:=AR e.p8&&(C5 e.w&&(GO e.g 0 200&&(decide (e.m.length<=40)&&(decide (e.u.length<=500)&&(e.w.all (λs=>decide (s.q1<=e.g))&&((List.range e.m.length).all (KD e)&&e.u.all AN))))))
theorem cT{e:C1P}{k:Nat}{f:C1O}(h:e.m[k]?=some f)(h1:JS e f=false):KD e k=false:=by simp[KD,h,h1]
theorem cV{e:C1P}{k:Nat}{f:C1O}(h:e.m[k]?=some f)(h1:MG (e.m.take k) f.p7 f.q2=true):KD e k=false:=by simp[KD,h,h1]
theorem sE{e:C1P}{k j:Nat}{f g:C1O}(h:e.m[k]?=some f)(a:e.m[j]?=some g)(b:j<k)(eq:g=f):KD e k=false:=by
 refine cV h (gI (i:=j) (f:=g) (by rw[List.getElem?_take,if_pos b];exact a) (by rw[eq]) (by rw[eq])).symm
theorem jZ{e:C1P}{k:Nat}{f:C1O}(h:e.m[k]?=some f)(h1:JS e f=true)(a:MG (e.m.take k) f.p7 f.q2=false):KD e k=true:=by simp[KD,h,h1,a]
theorem xN{e:C1P}{k:Nat}{f:C1O}(h:e.m[k]?=some f)(h1:JS e f=true)(c:∀i,i<k->∀g,e.m[i]?=some g->g≠f):KD e k=true:=by
 refine jZ h h1 (gJ (λi j g a b=>?_)).symm;rw[List.getElem?_take] at a
 split at a
 ·exact c i ‹_› g a (C1O.mk_eq b.1 b.2)
 ·cases a
theorem NO{e:C1P}(h:AR e.p8=false\/C5 e.w=false\/GO e.g 0 200=false\/¬e.m.length<=40\/¬e.u.length<=500):false=HT e:=by
 unfold HT
 rcases h with h|h|h|h|h<;>simp[h]
theorem A0s{e:C1P}{k:Nat}{s:C1N}(h:e.w[k]?=some s)(a:e.g<s.q1):false=HT e:=by
 unfold HT;have:e.w.all (λs=>decide (s.q1<=e.g))=false:=by rw[List.all_eq_false];exact⟨s,List.mem_of_getElem? h,by simp;omega⟩
 rw[this];simp
theorem kA{e:C1P}{k:Nat}(hk:k<e.m.length)(h:KD e k=false):false=HT e:=by
 unfold HT;have:(List.range e.m.length).all (KD e)=false:=by rw[List.all_eq_false];exact⟨k,by simpa using hk,by rw[h];simp⟩
 rw[this];simp
theorem A0t{e:C1P}{k:Nat}{v:C1K}(h:e.u[k]?=some v)(a:AN v=false):false=HT e:=by
 unfold HT;have:e.u.all AN=false:=by rw[List.all_eq_false];exact⟨v,List.mem_of_getElem? h,by rw[a];simp⟩
 rw[this];simp
theorem A5d{e:C1P}(h1:AR e.p8=true)(b:C5 e.w=true)(c:GO e.g 0 200=true)(f:e.m.length<=40)(j:e.u.length<=500)(k:∀i,i<e.w.length->∀s,e.w[i]?=some s->s.q1<=e.g)(l:∀i,i<e.m.length->KD e i=true)(n:∀i,i<e.u.length->∀v,e.u[i]?=some v->AN v=true):true=HT e:=by
 unfold HT;have p:e.w.all (λs=>decide (s.q1<=e.g))=true:=by
  rw[List.all_eq_true];intro s hs;obtain⟨i,a⟩:=List.getElem?_of_mem hs;simpa using k i (lS a) s a
 have a2:(List.range e.m.length).all (KD e)=true:=by rw[List.all_eq_true];intro i h;exact l i (by simpa using h)
 have a3:e.u.all AN=true:=by
  rw[List.all_eq_true];intro s hs;obtain⟨i,a⟩:=List.getElem?_of_mem hs;exact n i (lS a) s a
 simp[h1,b,c,f,j,p,a2,a3]
end Go.Sy
