/-
  What is drawn: sizes.
  Conditions: those that each theorem states.
-/
import Derived.Test.YtmjmglkogcomaaaGreatDoorDrz
import Derived.Test.YtmjmglkogcomaaaGreatDoorMat
section
namespace Go.Sy
open Go
theorem B4i(l:List ByteArray)(x:ByteArray):M9 (l++ [x])=M9 l+1+x.size:=by unfold M9;simp;omega
theorem B7d{l:List ByteArray}{x:ByteArray}(h:x∈l):x.size+1<=M9 l:=by
 have h1:=List.length_pos_of_mem h;have a:=C8 (c:=λs:ByteArray=>s.size) h;unfold AI at a;unfold M9;omega
theorem B5G(l:List ByteArray)(k:Nat):M9 (l.take k)<=M9 l:=by
 have h:=mF (c:=λs:ByteArray=>s.size) (List.take_sublist k l);unfold AI at h;unfold M9;rw[List.length_take];omega
theorem B6E{α:Type}{p:α->Prop}{l:List α}{x:α}(h:∀r∈l,p r)(a:p x):∀r∈l++ [x],p r:=λr b=>by
 rcases List.mem_append.1 b with h1|h1
 ·exact h r h1
 ·rw[List.mem_singleton] at h1;subst h1;exact a
theorem B5k(k:Int)(p:C1H):BW ⟨k,p,⟨#[]⟩,⟨#[]⟩⟩=E8 p:=by
 have a:(⟨#[]⟩:ByteArray).size=0:=rfl;unfold BW;simp only[a];omega
theorem B5a{s:ByteArray}(h:s.size<=1048576):VP s:=by unfold VP;omega
theorem B9i{l:List ByteArray}(h:M9 l<=1048576):A1i l:=λx a=>B5a (by have:=B7d a;omega)
theorem C3X{f:C1G}(h:F9 f<=1048576):P9 f:=by
 unfold F9 at h;exact⟨B5a (by omega),B9i (by omega)⟩
theorem B8w{p:C1H}(h:E8 p<=1048576):IP p:=by
 unfold E8 at h;exact⟨B5a (by omega),B9i (by omega)⟩
theorem B8x{x:C1L}(hk:okI x.s)(h:BW x<=1048576):LB x:=by
 unfold BW at h;exact⟨hk,B8w (by omega),B5a (by omega),B5a (by omega)⟩
theorem B8y{a:Action}(hk:okI a.s)(h:CV a<=1048576):QB a:=⟨hk,B8w h⟩
def B5l:List ByteArray:=[⟨#[111,110]⟩,⟨#[111,110]⟩,⟨#[97,116]⟩,⟨#[112]⟩,⟨#[113]⟩,⟨#[122]⟩]
def B5g:List Int:=[2,2,2,1,1,0]
def atL:List ByteArray:=[⟨#[97]⟩,⟨#[98]⟩,⟨#[99]⟩,⟨#[49]⟩,⟨#[50]⟩]
def B8z:List ByteArray:=[⟨#[97]⟩,⟨#[98]⟩,⟨#[111,110]⟩,⟨#[55]⟩,⟨#[49,48]⟩,⟨#[57,57,57,57]⟩,⟨#[49,48,48,48,48]⟩,⟨#[48,48,55]⟩,⟨#[48]⟩,⟨#[]⟩,⟨#[65]⟩,⟨#[63,120]⟩,⟨#[63,63]⟩,⟨#[63]⟩,⟨#[97,98,99,100,101,102,103,104]⟩,⟨#[97,98,99,100,101,102,103,104,105]⟩,⟨#[63,97,98,99,100,101,102,103,104]⟩,⟨#[97,45,98]⟩,⟨#[120,49]⟩,⟨#[49,120]⟩,⟨#[45,51]⟩]
def B8S:List ByteArray:=[⟨#[97]⟩,⟨#[98]⟩,⟨#[99]⟩,⟨#[97]⟩]
theorem C0m{k:Nat}{x:ByteArray}(h:B5l[k]?=some x):x.size<=2/\x≠⟨#[110]⟩:=⟨B6D (List.mem_of_getElem? h) (by decide),of_decide_eq_true (B9y (p:=λx=>decide (x≠⟨#[110]⟩)) (List.mem_of_getElem? h) (by decide))⟩
theorem C0n{k:Nat}{n:Int}(h:B5g[k]?=some n):0<=n/\n<=2:=by
 have a:=List.mem_of_getElem? h;simp only[B5g,List.mem_cons,List.not_mem_nil,or_false] at a;omega
def nR:ByteArray:=⟨#[110]⟩
def smF(f:C1G):Prop:=F9 f<=8/\f.p5≠nR
theorem C6D{f:C1G}(h:smF f):P9 f:=C3X (by have:=h.1;omega)
theorem B4y(r:ByteArray)(l:List ByteArray):F9 ⟨r,l⟩=r.size+M9 l:=rfl
theorem B5D(r:ByteArray)(l:List ByteArray):E8 ⟨r,l⟩=r.size+M9 l:=rfl
theorem C0o(k:Int)(l r:ByteArray):BW ⟨k,⟨⟨#[]⟩,[]⟩,l,r⟩=l.size+r.size:=by
 have a:E8 ⟨⟨#[]⟩,[]⟩=0:=by decide
 unfold BW;simp only[a];omega
section
variable {l:List C1G} {k:Nat}
end
end Go.Sy
end
/-
  Rules read from texts: sizes of the parts, what each exit of the readers answers.
  Conditions: those that each theorem states.
-/
section
namespace Go.Sy
open Go
theorem B4w(s:ByteArray)(a b:Nat):(s.extract a b).size<=s.size:=by rw[ByteArray.size_extract];omega
theorem B7m(s sep:ByteArray):∀(k:Nat) (out:List ByteArray) (a i:Nat),(∀x∈out,x.size<=s.size)->∀x∈spK s sep k out a i,x.size<=s.size
 |0,out,_,_,h,x,hx=>h x hx
 | k+1,out,a,i,h,x,hx=>by
  have e:∀c d,∀y∈out++ [s.extract c d],y.size<=s.size:=λc d=>B6E h (B4w s c d)
  rw[spK] at hx
  split at hx
  ·split at hx
   ·exact B7m s sep k _ _ _ (e _ _) x hx
   ·exact B7m s sep k _ _ _ h x hx
  ·exact e _ _ x hx
theorem B7M(s sep:ByteArray)(hp:0<sep.size):∀(k:Nat) (out:List ByteArray) (a i:Nat),i<=s.size->(spK s sep k out a i).length+i<=out.length+s.size+1
 |0,out,_,i,hi=>by rw[spK];omega
 | k+1,out,a,i,hi=>by
  rw[spK]
  split
  ·rename_i h1
   split
   ·have:=B7M s sep hp k (out++ [s.extract a i]) (i+sep.size) (i+sep.size) h1;rw[List.length_append,List.length_singleton] at this;omega
   ·have:=B7M s sep hp k out a (i+1) (by omega);omega
  ·rw[List.length_append,List.length_singleton];omega
theorem B5m{s sep x:ByteArray}(h:x∈CI s sep):x.size<=s.size:=by
 rw[C0i] at h;exact B7m s sep _ _ _ _ (λy c=>by cases c) x h
theorem B5n{s sep:ByteArray}(hp:0<sep.size):(CI s sep).length<=s.size+1:=by
 have:=B7M s sep hp (s.size+1) [] 0 0 (Nat.zero_le _);unfold CI;simp only[List.length_nil] at this;omega
theorem B4t{s sep x:ByteArray}{i:Nat}(h:(CI s sep)[i]?=some x):x.size<=s.size:=B5m (List.mem_of_getElem? h)
theorem B5N{l:List ByteArray}{x:ByteArray}(h:l[0]?=some x):at0 l=x:=by
 cases l with
 |nil=>cases h
 |cons y l=>exact Option.some.inj h
theorem B5E{l:List ByteArray}{x:ByteArray}(h:l[1]?=some x):at1 l=x:=by
 cases l with
 |nil=>cases h
 | cons y l=>
  cases l with
  |nil=>cases h
  |cons z l=>exact Option.some.inj h
section
variable {s x y:ByteArray}
theorem B7n(h:B5S s=false):⟨#[]⟩=B4l s/\ []=B5A s/\false=B5S s:=by simp[B4l,B5A,h]
theorem eX(h:(CI s ⟨#[40]⟩).length≠2):⟨#[]⟩=B4l s/\ []=B5A s/\false=B5S s:=B7n (by simp[B5S,B5w,h])
theorem eY(c:(CI s ⟨#[40]⟩)[1]?=some y)(h:y.size=0):⟨#[]⟩=B4l s/\ []=B5A s/\false=B5S s:=B7n (by simp[B5S,B5E c,h])
theorem C7O(c:(CI s ⟨#[40]⟩)[1]?=some y)(h:sB y (y.size-1)≠41):⟨#[]⟩=B4l s/\ []=B5A s/\false=B5S s:=B7n (by simp[B5S,B5E c,h])
theorem C0A(hl:(CI s ⟨#[40]⟩).length=2)(c:(CI s ⟨#[40]⟩)[1]?=some y)(h0:y.size≠0)(h:sB y (y.size-1)=41):B5S s=true:=by
 simp[B5S,B5w,B5E c,h,hl];omega
theorem oI(hl:(CI s ⟨#[40]⟩).length=2)(e:(CI s ⟨#[40]⟩)[0]?=some x)(d:(CI s ⟨#[40]⟩)[1]?=some y)(h0:y.size≠0)(h:sB y (y.size-1)=41)(k:y.extract 0 (y.size-1)=⟨#[]⟩):x=B4l s/\ []=B5A s/\true=B5S s:=by
 have c:=C0A hl d h0 h;refine⟨?_,?_,c.symm⟩
 ·unfold B4l;rw[if_pos c,B5N e]
 ·unfold B5A inS;rw[if_pos c,B5E d,if_pos k]
theorem oR(hl:(CI s ⟨#[40]⟩).length=2)(e:(CI s ⟨#[40]⟩)[0]?=some x)(d:(CI s ⟨#[40]⟩)[1]?=some y)(h0:y.size≠0)(h:sB y (y.size-1)=41)(k:y.extract 0 (y.size-1)≠⟨#[]⟩):x=B4l s/\CI (y.extract 0 (y.size-1)) ⟨#[44]⟩=B5A s/\true=B5S s:=by
 have c:=C0A hl d h0 h;refine⟨?_,?_,c.symm⟩
 ·unfold B4l;rw[if_pos c,B5N e]
 ·unfold B5A inS;rw[if_pos c,B5E d,if_neg k]
theorem B9D(s sep:ByteArray):(at0 (CI s sep)).size<=s.size:=by
 unfold at0
 cases h:CI s sep with
 |nil=>exact Nat.zero_le _
 |cons z l=>exact B5m (s:=s) (sep:=sep) (by rw[h];simp)
theorem B7o(s sep:ByteArray):(at1 (CI s sep)).size<=s.size:=by
 unfold at1
 cases h:CI s sep with
 |nil=>exact Nat.zero_le _
 | cons z l=>
  cases l with
  |nil=>exact Nat.zero_le _
  |cons u l=>exact B5m (s:=s) (sep:=sep) (by rw[h];simp)
theorem B9E(s:ByteArray):(B4l s).size<=s.size/\(∀z∈B5A s,z.size<=s.size)/\(B5A s).length<=s.size+1:=by
 have c:(inS (at1 (CI s ⟨#[40]⟩))).size<=s.size:=Nat.le_trans (B4w _ _ _) (B7o _ _);refine⟨?_,?_,?_⟩
 ·unfold B4l
  split
  ·exact B9D _ _
  ·exact Nat.zero_le _
 ·unfold B5A
  split
  ·split
   ·intro z hz;cases hz
   ·intro z hz;exact Nat.le_trans (B5m hz) c
  ·intro z hz;cases hz
 ·unfold B5A
  split
  ·split
   ·simp
   ·exact Nat.le_trans (B5n (by decide)) (by omega)
  ·simp
theorem C0N(h:s.size<=64):IP ⟨B4l s,B5A s⟩:=by
 have:=B9E s;exact⟨B5a (by show(B4l s).size<=_;omega),λz c=>B5a (by have:=this.2.1 z c;omega)⟩
theorem B9j(h:s.size<=64):E8 ⟨B4l s,B5A s⟩<=4300:=by
 have h1:=B9E s;have c:AI (λz:ByteArray=>z.size) (B5A s)<=64*(B5A s).length:=lD (λz d=>by have:=h1.2.1 z d;omega);unfold AI at c;show(B4l s).size+M9 (B5A s)<=_;unfold M9;omega
theorem B7N(h:s.size<=64):E8 (bG s)<=4300:=by
 unfold bG
 split
 ·exact B9j h
 ·decide
theorem B5U(h:B5S s=false):z0P=bG s/\false=B4m s:=by simp[bG,B4m,h]
theorem B5V(h:CK ⟨B4l s,B5A s⟩=false):z0P=bG s/\false=B4m s:=by simp[bG,B4m,h]
theorem B5u(h1:B5S s=true)(c:CK ⟨B4l s,B5A s⟩=true):(⟨B4l s,B5A s⟩:C1H)=bG s/\true=B4m s:=by simp[bG,B4m,h1,c]
theorem C0O{k:Int}(hk:okI k)(d:x.size<=64)(e:y.size<=64):LB ⟨k,⟨⟨#[]⟩,[]⟩,x,y⟩:=
 ⟨hk,⟨B5a (Nat.zero_le _),λz c=>by cases c⟩,B5a (by show x.size<=_;omega),B5a (by show y.size<=_;omega)⟩
theorem B9F{k:Int}(c:(CI s (B4j k))[0]?=some x)(d:(CI s (B4j k))[1]?=some y):B7L s k=⟨k,⟨⟨#[]⟩,[]⟩,x,y⟩:=by unfold B7L;rw[B5N c,B5E d];rfl
theorem C0s{k:Int}(hl:(CI s (B4j k)).length=2)(c:(CI s (B4j k))[0]?=some x)(d:(CI s (B4j k))[1]?=some y)(h:BD ⟨k,⟨⟨#[]⟩,[]⟩,x,y⟩=true):B5f s k=true:=by
 rw[<-B9F c d] at h;simp[B5f,B5w,hl,h]
theorem B9G{k:Int}(hl:(CI s (B4j k)).length≠2):B5f s k=false:=by simp[B5f,B5w,hl]
theorem B9H{k:Int}(c:(CI s (B4j k))[0]?=some x)(d:(CI s (B4j k))[1]?=some y)(h:BD ⟨k,⟨⟨#[]⟩,[]⟩,x,y⟩=false):B5f s k=false:=by
 rw[<-B9F c d] at h;simp[B5f,h]
theorem B9k{k:Int}(h0:3<=k)(l:k<=5)(c:∀j:Int,3<=j->j<k->B5f s j=false)(h:B5f s k=true):B7L s k=eB s/\true=oY s:=by
 have d:k=3\/k=4\/k=5:=by omega
 rcases d with e|e|e<;>subst e
 ·simp[eB,oY,h]
 ·simp[eB,oY,h,c 3 (by omega) (by omega)]
 ·simp[eB,oY,h,c 3 (by omega) (by omega),c 4 (by omega) (by omega)]
theorem wX{k:Int}(h0:3<=k)(e:k<=5)(l:∀j:Int,3<=j->j<k->B5f s j=false)(hl:(CI s (B4j k)).length=2)(c:(CI s (B4j k))[0]?=some x)(d:(CI s (B4j k))[1]?=some y)(h:BD ⟨k,⟨⟨#[]⟩,[]⟩,x,y⟩=true):(⟨k,⟨⟨#[]⟩,[]⟩,x,y⟩:C1L)=eB s/\true=oY s:=by
 have:=B9k h0 e l (C0s hl c d h);rw[B9F c d] at this;exact this
theorem B7O{k:Int}(d:¬k<=5)(c:∀j:Int,3<=j->j<k->B5f s j=false):(if B5t s=true then B8o s else z0K)=eB s/\B5t s=oY s:=by
 simp[eB,oY,c 3 (by omega) (by omega),c 4 (by omega) (by omega),c 5 (by omega) (by omega)]
theorem fS(h1:4<s.size)(c:s.extract 0 4=⟨#[110,111,116,32]⟩):B6Z s=true:=by simp[B6Z,h1,c]
theorem bS(h1:¬4<s.size):B6Z s=false:=by simp[B6Z,h1]
theorem cS(c:s.extract 0 4≠⟨#[110,111,116,32]⟩):B6Z s=false:=by simp[B6Z,c]
theorem hB{k:Int}(c:¬k<=5)(d:∀j:Int,3<=j->j<k->B5f s j=false)(e:B6Z s=true)(hp:B4m (s.extract 4 s.size)=false):z0K=eB s/\false=oY s:=by
 have h:=B7O c d;have l:B5t s=false:=by unfold B5t;rw[if_pos e,hp]
 rw[l] at h;exact⟨by rw[<-h.1];rfl,h.2⟩
theorem hK{k:Int}(d:¬k<=5)(e:∀j:Int,3<=j->j<k->B5f s j=false)(c:B6Z s=true)(hp:B4m (s.extract 4 s.size)=true):(⟨2,bG (s.extract 4 s.size),⟨#[]⟩,⟨#[]⟩⟩:C1L)=eB s/\true=oY s:=by
 have h:=B7O d e;have l:B5t s=true:=by unfold B5t;rw[if_pos c,hp]
 rw[l] at h;exact⟨by rw[<-h.1,if_pos rfl];unfold B8o;rw[if_pos c],h.2⟩
theorem bN{k:Int}(c:¬k<=5)(d:∀j:Int,3<=j->j<k->B5f s j=false)(e:B6Z s=false)(hp:B4m s=false):z0K=eB s/\false=oY s:=by
 have h:=B7O c d;have l:B5t s=false:=by unfold B5t;rw[e,hp];rfl
 rw[l] at h;exact⟨by rw[<-h.1];rfl,h.2⟩
theorem bR{k:Int}(d:¬k<=5)(e:∀j:Int,3<=j->j<k->B5f s j=false)(c:B6Z s=false)(hp:B4m s=true):(⟨1,bG s,⟨#[]⟩,⟨#[]⟩⟩:C1L)=eB s/\true=oY s:=by
 have h:=B7O d e;have l:B5t s=true:=by unfold B5t;rw[c,hp];rfl
 rw[l] at h;exact⟨by rw[<-h.1,if_pos rfl];unfold B8o;rw[c];rfl,h.2⟩
theorem B9I(h:s.size<=64):BW (eB s)<=4400/\okI (eB s).s:=by
 have c:∀k:Int,3<=k->k<=5->BW (B7L s k)<=4400/\okI (B7L s k).s:=λk d e=>by
  have h1:=B9D s (B4j k);have l:=B7o s (B4j k);refine⟨?_,by show okI k;unfold okI;omega⟩;show E8 z0P+(at0 (CI s (B4j k))).size+(at1 (CI s (B4j k))).size<=_;have:E8 z0P=0:=by decide
  omega
 unfold eB
 split
 ·exact c 3 (by omega) (by omega)
 ·split
  ·exact c 4 (by omega) (by omega)
  ·split
   ·exact c 5 (by omega) (by omega)
   ·split
    ·unfold B8o
     split
     ·rw[B5k];have:=B7N (s:=s.extract 4 s.size) (Nat.le_trans (B4w _ _ _) h);exact⟨by omega,(⟨by decide,by decide⟩:okI 2)⟩
     ·rw[B5k];have:=B7N h;exact⟨by omega,(⟨by decide,by decide⟩:okI 1)⟩
    ·exact⟨by decide,by show okI 0;unfold okI;omega⟩
theorem wY(h:s=B6T):(⟨3,z0P⟩:Action)=wB s/\true=B4q s:=by simp[wB,B4q,h]
theorem B9J(h0:s≠B6T)(h:B7k s=false):(⟨0,z0P⟩:Action)=wB s/\false=B4q s:=by simp[wB,B4q,h0,h]
theorem zI(h0:s≠B6T)(h:(CI s ⟨#[32]⟩).length≠2):(⟨0,z0P⟩:Action)=wB s/\false=B4q s:=B9J h0 (by simp[B7k,B5w,h])
theorem B4W(h0:s≠B6T)(c:(CI s ⟨#[32]⟩)[0]?=some x)(h1:x≠B8P)(d:x≠B8C):(⟨0,z0P⟩:Action)=wB s/\false=B4q s:=B9J h0 (by simp[B7k,B5N c,h1,d])
theorem B4X(h0:s≠B6T)(hl:(CI s ⟨#[32]⟩).length=2)(c:(CI s ⟨#[32]⟩)[0]?=some x)(d:(CI s ⟨#[32]⟩)[1]?=some y)(h1:x=B8P):(⟨1,bG y⟩:Action)=wB s/\B4m y=B4q s:=by
 simp[wB,B4q,B7k,B5w,h0,hl,B5N c,B5E d,h1]
theorem B4Y(h0:s≠B6T)(hl:(CI s ⟨#[32]⟩).length=2)(c:(CI s ⟨#[32]⟩)[0]?=some x)(d:(CI s ⟨#[32]⟩)[1]?=some y)(e:x≠B8P)(h1:x=B8C):(⟨2,bG y⟩:Action)=wB s/\B4m y=B4q s:=by
 have:B8C≠B8P:=by decide
 simp[wB,B4q,B7k,B5w,h0,hl,B5N c,B5E d,h1,this]
theorem B9l(h:s.size<=64):CV (wB s)<=4400/\okI (wB s).s:=by
 unfold wB
 split
 ·exact⟨by decide,by show okI 3;unfold okI;omega⟩
 ·split
  ·have h1:=B7N (s:=at1 (CI s ⟨#[32]⟩)) (Nat.le_trans (B7o _ _) h);refine⟨by show E8 (bG _)<=_;omega,?_⟩;show okI (if _ then 1 else 2)
   split<;>(unfold okI;omega)
  ·exact⟨by decide,by show okI 0;unfold okI;omega⟩
end
@[irreducible] def B4p (n : ByteArray) (p : Int) (a b : ByteArray) : C1M := ⟨n, p, ((ifL a).takeWhile oY).map eB, if (ifL a).all oY = true then ((ifL b).takeWhile B4q).map wB else []⟩
theorem B8H{α:Type}{p:α->Bool}{l:List α}{k:Nat}{x:α}(h:l[k]?=some x)(c:(l.take k).all p=true)(d:p x=true):(l.take (k+1)).all p=true:=by
 rw[A1 h,List.all_append,c];simp[d]
theorem B6P{α:Type}{p:α->Bool}:∀{l:List α},l.all p=true->l.takeWhile p=l
 | [],_=>rfl
 | x::l,h=>by
  simp only[List.all_cons,Bool.and_eq_true] at h;rw[List.takeWhile_cons,if_pos h.1,B6P h.2]
theorem B7P{α:Type}{p:α->Bool}:∀{l:List α} {k:Nat} {x:α},l[k]?=some x->(l.take k).all p=true->p x=false->l.takeWhile p=l.take k/\l.all p=false
 | [],_,_,h,_,_=>by cases h
 | y::l,0,x,h,_,hx=>by
  have e:y=x:=Option.some.inj h;subst e;simp[List.takeWhile_cons,hx]
 | y::l,k+1,x,h,hi,hx=>by
  simp only[List.take_succ_cons,List.all_cons,Bool.and_eq_true] at hi;have:=B7P (l:=l) (k:=k) (x:=x) (by simpa using h) hi.2 hx;rw[List.takeWhile_cons,if_pos hi.1,this.1];simp[hi.1,this.2]
section
variable {n a b x:ByteArray} {p:Int} {i j:Nat}
theorem B5W(c:(ifL a)[i]?=some x)(d:((ifL a).take i).all oY=true)(h:oY x=false):(⟨n,p,((ifL a).take i).map eB,[]⟩:C1M)=B4p n p a b/\false=B5T ⟨n,p,[],[]⟩ a b:=by
 have:=B7P c d h;simp[B4p,B5T,this.1,this.2]
theorem B5X(d:(ifL a).length<=i)(c:((ifL a).take i).all oY=true)(e:(ifL b)[j]?=some x)(k:((ifL b).take j).all B4q=true)(h:B4q x=false):(⟨n,p,((ifL a).take i).map eB,((ifL b).take j).map wB⟩:C1M)=B4p n p a b/\false=B5T ⟨n,p,[],[]⟩ a b:=by
 have:=B7P e k h;rw[List.take_of_length_le d] at c⊢;simp[B4p,B5T,c,B6P c,this.1,this.2]
theorem B5v(d:(ifL a).length<=i)(c:((ifL a).take i).all oY=true)(e:(ifL b).length<=j)(hb:((ifL b).take j).all B4q=true):(⟨n,p,((ifL a).take i).map eB,((ifL b).take j).map wB⟩:C1M)=B4p n p a b/\CR ⟨n,p,((ifL a).take i).map eB,((ifL b).take j).map wB⟩=B5T ⟨n,p,[],[]⟩ a b:=by
 rw[List.take_of_length_le d] at c⊢;rw[List.take_of_length_le e] at hb⊢;refine⟨by simp[B4p,c,B6P c,B6P hb],?_⟩;simp[B5T,B8p,c,hb]
theorem B9K(o:n.size<=64)(hp:okI p)(h1:a.size<=64)(m:b.size<=64)(i j:Nat):H9 ⟨n,p,((ifL a).take i).map eB,((ifL b).take j).map wB⟩/\BG ⟨n,p,((ifL a).take i).map eB,((ifL b).take j).map wB⟩<=1048576:=by
 have l:∀x∈((ifL a).take i).map eB,BW x<=4400/\okI x.s:=λx d=>by
  obtain⟨y,k,e⟩:=List.mem_map.1 d;rw[<-e];exact B9I (Nat.le_trans (B5m (List.mem_of_mem_take k)) h1)
 have h:∀x∈((ifL b).take j).map wB,CV x<=4400/\okI x.s:=λx d=>by
  obtain⟨y,k,e⟩:=List.mem_map.1 d;rw[<-e];exact B9l (Nat.le_trans (B5m (List.mem_of_mem_take k)) m)
 have q:(((ifL a).take i).map eB).length<=65:=by
  rw[List.length_map,List.length_take];have:=B5n (s:=a) (sep:=⟨#[32,38,32]⟩) (by decide);unfold ifL;omega
 have r:(((ifL b).take j).map wB).length<=65:=by
  rw[List.length_map,List.length_take];have:=B5n (s:=b) (sep:=⟨#[32,38,32]⟩) (by decide);unfold ifL;omega
 have t:=A9m (c:=BW) (λx d=>(l x d).1);have w:=A9m (c:=CV) (λx d=>(h x d).1);refine⟨⟨B5a (by show n.size<=_;omega),hp,λx d=>B8x (l x d).2 (by have:=(l x d).1;omega),λx d=>B8y (h x d).2 (by have:=(h x d).1;omega)⟩,?_⟩;show n.size+DD BW (((ifL a).take i).map eB)+DD CV (((ifL b).take j).map wB)<=_;omega
theorem C0P(h:B5T ⟨n,p,[],[]⟩ a b=true):B4p n p a b=B8p ⟨n,p,[],[]⟩ a b:=by
 simp only[B5T,Bool.and_eq_true] at h;simp[B4p,B8p,h.1,B6P h.1,B6P h.2.1]
end
theorem C0Q(s:ByteArray):0<=pI s/\pI s<=9999:=by
 unfold pI pQ
 cases h:pNb 10000 s with
 |none=>simp
 | some n=>
  unfold pNb at h;have:=List.mem_of_find?_eq_some h;rw[List.mem_range] at this;simp;omega
theorem C0B(s:ByteArray):okI (pI s):=by have:=C0Q s;unfold okI;omega
section
variable {s x y u v f g:ByteArray}
theorem B6g(h:B5K s=false):z0R=B4o s/\false=B5K s:=by simp[B4o,h]
theorem B4b(h:(CI s ⟨#[58,32]⟩).length≠2):z0R=B4o s/\false=B5K s:=B6g (by simp[B5K,B7l,B5w,h])
theorem B4c(c:(CI s ⟨#[58,32]⟩)[0]?=some x)(h:(CI x ⟨#[32]⟩).length≠2):z0R=B4o s/\false=B5K s:=B6g (by simp[B5K,B7l,B5w,hdL,B5N c,h])
theorem B4d(c:(CI s ⟨#[58,32]⟩)[1]?=some y)(h:(CI y ⟨#[32,45,62,32]⟩).length≠2):z0R=B4o s/\false=B5K s:=B6g (by simp[B5K,B7l,B5w,bdL,B5E c,h])
theorem B4e(c:(CI s ⟨#[58,32]⟩)[0]?=some x)(d:(CI x ⟨#[32]⟩)[1]?=some v)(h:pO v=false):z0R=B4o s/\false=B5K s:=B6g (by simp[B5K,hdL,B5N c,B5E d,h])
theorem C0C(q:(CI s ⟨#[58,32]⟩).length=2)(c:(CI s ⟨#[58,32]⟩)[0]?=some x)(d:(CI s ⟨#[58,32]⟩)[1]?=some y)(r:(CI x ⟨#[32]⟩).length=2)(t:(CI y ⟨#[32,45,62,32]⟩).length=2)
  (hu:(CI x ⟨#[32]⟩)[0]?=some u) (w:(CI x ⟨#[32]⟩)[1]?=some v) (z:(CI y ⟨#[32,45,62,32]⟩)[0]?=some f) (hg:(CI y ⟨#[32,45,62,32]⟩)[1]?=some g) (hp:pO v=true):
  B5K s=B5T ⟨u,pI v,[],[]⟩ f g/\(B5T ⟨u,pI v,[],[]⟩ f g=true->B4p u (pI v) f g=B4o s):=by
 have e:at0 (hdL s)=u:=by unfold hdL;rw[B5N c,B5N hu]
 have k:at1 (hdL s)=v:=by unfold hdL;rw[B5N c,B5E w]
 have l:at0 (bdL s)=f:=by unfold bdL;rw[B5E d,B5N z]
 have m:at1 (bdL s)=g:=by unfold bdL;rw[B5E d,B5E hg]
 have e5:B7l s=true:=by simp[B7l,B5w,hdL,bdL,B5N c,B5E d,q,r,t]
 have o:B5K s=B5T ⟨u,pI v,[],[]⟩ f g:=by simp[B5K,B8Q,e,k,l,m,e5,hp]
 refine⟨o,λh=>?_⟩;rw[C0P h];unfold B4o;rw[if_pos (o.trans h)];unfold B8Q;rw[e,k,l,m]
theorem B4f(c:(CI s ⟨#[58,32]⟩).length=2)(d:(CI s ⟨#[58,32]⟩)[0]?=some x)(e:(CI s ⟨#[58,32]⟩)[1]?=some y)(k:(CI x ⟨#[32]⟩).length=2)(l:(CI y ⟨#[32,45,62,32]⟩).length=2)
  (hu:(CI x ⟨#[32]⟩)[0]?=some u) (m:(CI x ⟨#[32]⟩)[1]?=some v) (o:(CI y ⟨#[32,45,62,32]⟩)[0]?=some f) (q:(CI y ⟨#[32,45,62,32]⟩)[1]?=some g) (hp:pO v=true) (h:B5T ⟨u,pI v,[],[]⟩ f g=false):z0R=B4o s/\false=B5K s:=
 B6g (by rw[(C0C c d e k l hu m o q hp).1,h])
theorem B4g(c:(CI s ⟨#[58,32]⟩).length=2)(d:(CI s ⟨#[58,32]⟩)[0]?=some x)(e:(CI s ⟨#[58,32]⟩)[1]?=some y)(l:(CI x ⟨#[32]⟩).length=2)(m:(CI y ⟨#[32,45,62,32]⟩).length=2)
  (hu:(CI x ⟨#[32]⟩)[0]?=some u) (o:(CI x ⟨#[32]⟩)[1]?=some v) (q:(CI y ⟨#[32,45,62,32]⟩)[0]?=some f) (r:(CI y ⟨#[32,45,62,32]⟩)[1]?=some g) (hp:pO v=true) (h:B5T ⟨u,pI v,[],[]⟩ f g=true):B4p u (pI v) f g=B4o s/\true=B5K s:=
 have k:=C0C c d e l m hu o q r hp
 ⟨k.2 h,by rw[k.1,h]⟩
theorem B9L{s:ByteArray}(h:s∈known):s.size<=64:=of_decide_eq_true (List.all_eq_true.1 (by decide:known.all (λx=>decide (x.size<=64))=true) s h)
end
end Go.Sy
end
/-
  Texts and pairs drawn with the cursor; pieces of strings.
  Conditions: none.
-/
section
namespace Go.Sy
open Go Go.RowKit
section
variable {P:Program} {N:Nat} {w0:World} {H:List Chunk} {L:Fm} {Q:Exit->Act->World->Prop} {o:Oper} {d:Nat} {K:Act->World->Prop}
theorem ccS{c:Chunk}{φ:ByteArray->Prop}{f:Nat}{C4k:List Operand}{vs:List Value}{b:Array TypeId}(hb:AA P f=true)
  (h:o.op= .call ⟨.value (.func f),C4k.toArray,b⟩) (i:evs L C4k=some vs) (hd:o.dst=some d) (j:Nat.blt d N=true)
  (hc:∀w,St w0 (c::H) w->Calls P f vs.toArray w (λe w'=>∃y:ByteArray,φ y/\e= .returned (.string y)/\St w0 (c::H) w'))
  (k:∀y,φ y->D N w0 (c::H) ((d, .string y)::L) K):D N w0 (c::H) L (λa w=>o.wp P a w K Q):=
 K7 (σ:=ByteArray) (val:=λy=> .string y) (H':=λ_=>c::H) (J:=φ) hb h i hd j
  (λw l=>(hc w l).mono λ_ _ ⟨y,g,he,hst⟩=>⟨y,he,g,hst⟩) (λy g=>k y g)
theorem C0t{c:Chunk}{φ:ByteArray->Int->Prop}{f:Nat}{C4k:List Operand}{vs:List Value}{b:Array TypeId}(hb:AA P f=true)
  (h:o.op= .call ⟨.value (.func f),C4k.toArray,b⟩) (i:evs L C4k=some vs) (hd:o.dst=some d) (j:Nat.blt d N=true)
  (hc:∀w,St w0 (c::H) w->Calls P f vs.toArray w (λe w'=>∃(y:ByteArray) (z:Int),φ y z/\e= .returned (.tuple #[.string y, .int .i64 z])/\St w0 (c::H) w'))
  (k:∀y z,φ y z->D N w0 (c::H) ((d, .tuple #[.string y, .int .i64 z])::L) K):D N w0 (c::H) L (λa w=>o.wp P a w K Q):=
 K7 (σ:=ByteArray × Int) (val:=λs=> .tuple #[.string s.1, .int .i64 s.2]) (H':=λ_=>c::H) (J:=λs=>φ s.1 s.2) hb h i hd j
  (λw g=>(hc w g).mono λ_ _ ⟨y,z,hy,he,hst⟩=>⟨(y,z),he,hy,hst⟩) (λs g=>k s.1 s.2 g)
theorem C0D{t:TypeId}{x y g:Operand}{s:ByteArray}{a b:Nat}{z h:Int}(i:P.underlying t=some .string)(j:o.op= .slice t x (some y) (some g) none)(k:ev L x=some (.string s))(l:ev L y=some (.int .i64 z))(c:ev L g=some (.int .i64 h))(m:z=(a:Int))(e:h=(b:Int))(f:a<=b)(hb:b<=s.size):C2 P N w0 H L o (.string (s.extract a b)):=by
 intro ac w hf _;subst m;subst e;unfold execOp;rw[j];have n:(0:Int)<=(a:Int)/\(a:Int)<=((b:Nat):Int)/\((b:Nat):Int)<=((s.size:Nat):Int):=by omega
 simp[Instr.sliceAt,Instr.slice,run_underlying i,hf.ev k,hf.ev l,hf.ev c,Instr.sliceBounds,Instr.sliceBound,asIntOf,n,f,hb]
theorem C0E{t:TypeId}{x e:Operand}{s:ByteArray}{b:Nat}{f:Int}(g:P.underlying t=some .string)(h:o.op= .slice t x none (some e) none)(i:ev L x=some (.string s))(a:ev L e=some (.int .i64 f))(c:f=(b:Int))(hb:b<=s.size):C2 P N w0 H L o (.string (s.extract 0 b)):=by
 intro ac w hf _;subst c;unfold execOp;rw[h];have j:(0:Int)<=((b:Nat):Int)/\((b:Nat):Int)<=((s.size:Nat):Int):=by omega
 simp[Instr.sliceAt,Instr.slice,run_underlying g,hf.ev i,hf.ev a,Instr.sliceBounds,Instr.sliceBound,asIntOf,j,hb]
end
end Go.Sy
end
