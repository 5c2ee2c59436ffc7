/-
  Rules read from texts: sizes of the parts, what each exit of the readers answers.
  Conditions: those that each theorem states.
-/
import Derived.Test.YtbnpgdcpbmaebaaGreatDoorPar
import Derived.Test.YtbnpgdcpbmaebaaGreatDoorDrl
namespace Go.Sy
open Go
theorem B4w(s:ByteArray)(a b:Nat):(s.extract a b).size<=s.size:=by rw[ByteArray.size_extract];omega
theorem B7m(s sep:ByteArray):∀(k:Nat) (out:List ByteArray) (a i:Nat),(∀x∈out,x.size<=s.size)->∀x∈spK s sep k out a i,x.size<=s.size
 |0,out,_,_,h,x,hx=>h x hx
 | k+1,out,a,i,h,x,hx=>by
  have hs:∀c d,∀y∈out++ [s.extract c d],y.size<=s.size:=λc d=>B6E h (B4w s c d)
  rw[spK] at hx
  split at hx
  ·split at hx
   ·exact B7m s sep k _ _ _ (hs _ _) x hx
   ·exact B7m s sep k _ _ _ h x hx
  ·exact hs _ _ x hx
theorem B7M(s sep:ByteArray)(hp:0<sep.size):∀(k:Nat) (out:List ByteArray) (a i:Nat),i<=s.size->(spK s sep k out a i).length+i<=out.length+s.size+1
 |0,out,_,i,hi=>by rw[spK];omega
 | k+1,out,a,i,hi=>by
  rw[spK]
  split
  ·rename_i h1
   split
   ·have:=B7M s sep hp k (out++ [s.extract a i]) (i+sep.size) (i+sep.size) h1;rw[List.length_append,List.length_singleton] at this;omega
   ·have:=B7M s sep hp k out a (i+1) (by omega);omega
  ·rw[List.length_append,List.length_singleton];omega
theorem B5m{s sep x:ByteArray}(h:x∈B5p s sep):x.size<=s.size:=by
 rw[C0i] at h;exact B7m s sep _ _ _ _ (λy hy=>by cases hy) x h
theorem B5n{s sep:ByteArray}(hp:0<sep.size):(B5p s sep).length<=s.size+1:=by
 have:=B7M s sep hp (s.size+1) [] 0 0 (Nat.zero_le _);unfold B5p;simp only[List.length_nil] at this;omega
theorem B4t{s sep x:ByteArray}{i:Nat}(h:(B5p s sep)[i]?=some x):x.size<=s.size:=B5m (List.mem_of_getElem? h)
theorem B5N{l:List ByteArray}{x:ByteArray}(h:l[0]?=some x):at0 l=x:=by
 cases l with
 |nil=>cases h
 |cons y l=>exact Option.some.inj h
theorem B5E{l:List ByteArray}{x:ByteArray}(h:l[1]?=some x):at1 l=x:=by
 cases l with
 |nil=>cases h
 | cons y l=>
  cases l with
  |nil=>cases h
  |cons z l=>exact Option.some.inj h
section
variable {s x y:ByteArray}
theorem B7n(h:B5S s=false):⟨#[]⟩=B4l s/\ []=B5A s/\false=B5S s:=by simp[B4l,B5A,h]
theorem C4y(h:(B5p s ⟨#[40]⟩).length≠2):⟨#[]⟩=B4l s/\ []=B5A s/\false=B5S s:=B7n (by simp[B5S,B5w,h])
theorem C4z(c:(B5p s ⟨#[40]⟩)[1]?=some y)(h:y.size=0):⟨#[]⟩=B4l s/\ []=B5A s/\false=B5S s:=B7n (by simp[B5S,B5E c,h])
theorem C5A(c:(B5p s ⟨#[40]⟩)[1]?=some y)(h:sB y (y.size-1)≠41):⟨#[]⟩=B4l s/\ []=B5A s/\false=B5S s:=B7n (by simp[B5S,B5E c,h])
theorem C0A(hl:(B5p s ⟨#[40]⟩).length=2)(c:(B5p s ⟨#[40]⟩)[1]?=some y)(h0:y.size≠0)(h:sB y (y.size-1)=41):B5S s=true:=by
 simp[B5S,B5w,B5E c,h,hl];omega
theorem C5D(hl:(B5p s ⟨#[40]⟩).length=2)(d:(B5p s ⟨#[40]⟩)[0]?=some x)(c:(B5p s ⟨#[40]⟩)[1]?=some y)(h0:y.size≠0)(h:sB y (y.size-1)=41)(e:y.extract 0 (y.size-1)=⟨#[]⟩):x=B4l s/\ []=B5A s/\true=B5S s:=by
 have hb:=C0A hl c h0 h;refine⟨?_,?_,hb.symm⟩
 ·unfold B4l;rw[if_pos hb,B5N d]
 ·unfold B5A inS;rw[if_pos hb,B5E c,if_pos e]
theorem C5E(hl:(B5p s ⟨#[40]⟩).length=2)(d:(B5p s ⟨#[40]⟩)[0]?=some x)(c:(B5p s ⟨#[40]⟩)[1]?=some y)(h0:y.size≠0)(h:sB y (y.size-1)=41)(e:y.extract 0 (y.size-1)≠⟨#[]⟩):x=B4l s/\B5p (y.extract 0 (y.size-1)) ⟨#[44]⟩=B5A s/\true=B5S s:=by
 have hb:=C0A hl c h0 h;refine⟨?_,?_,hb.symm⟩
 ·unfold B4l;rw[if_pos hb,B5N d]
 ·unfold B5A inS;rw[if_pos hb,B5E c,if_neg e]
theorem B9D(s sep:ByteArray):(at0 (B5p s sep)).size<=s.size:=by
 unfold at0
 cases h:B5p s sep with
 |nil=>exact Nat.zero_le _
 |cons z l=>exact B5m (s:=s) (sep:=sep) (by rw[h];simp)
theorem B7o(s sep:ByteArray):(at1 (B5p s sep)).size<=s.size:=by
 unfold at1
 cases h:B5p s sep with
 |nil=>exact Nat.zero_le _
 | cons z l=>
  cases l with
  |nil=>exact Nat.zero_le _
  |cons u l=>exact B5m (s:=s) (sep:=sep) (by rw[h];simp)
theorem B9E(s:ByteArray):(B4l s).size<=s.size/\(∀z∈B5A s,z.size<=s.size)/\(B5A s).length<=s.size+1:=by
 have hi:(inS (at1 (B5p s ⟨#[40]⟩))).size<=s.size:=Nat.le_trans (B4w _ _ _) (B7o _ _);refine⟨?_,?_,?_⟩
 ·unfold B4l
  split
  ·exact B9D _ _
  ·exact Nat.zero_le _
 ·unfold B5A
  split
  ·split
   ·intro z hz;cases hz
   ·intro z hz;exact Nat.le_trans (B5m hz) hi
  ·intro z hz;cases hz
 ·unfold B5A
  split
  ·split
   ·simp
   ·exact Nat.le_trans (B5n (by decide)) (by omega)
  ·simp
theorem C0N(h:s.size<=64):IP ⟨B4l s,B5A s⟩:=by
 have:=B9E s;exact⟨B5a (by show(B4l s).size<=_;omega),λz hz=>B5a (by have:=this.2.1 z hz;omega)⟩
theorem B9j(h:s.size<=64):E8 ⟨B4l s,B5A s⟩<=4300:=by
 have h1:=B9E s;have c:AI (λz:ByteArray=>z.size) (B5A s)<=64*(B5A s).length:=lD (λz hz=>by have:=h1.2.1 z hz;omega);unfold AI at c;show(B4l s).size+M9 (B5A s)<=_;unfold M9;omega
theorem B7N(h:s.size<=64):E8 (bG s)<=4300:=by
 unfold bG
 split
 ·exact B9j h
 ·decide
theorem B5U(h:B5S s=false):z0P=bG s/\false=B4m s:=by simp[bG,B4m,h]
theorem B5V(h:CK ⟨B4l s,B5A s⟩=false):z0P=bG s/\false=B4m s:=by simp[bG,B4m,h]
theorem B5u(h1:B5S s=true)(c:CK ⟨B4l s,B5A s⟩=true):(⟨B4l s,B5A s⟩:Pattern)=bG s/\true=B4m s:=by simp[bG,B4m,h1,c]
theorem C0O{k:Int}(hk:okI k)(c:x.size<=64)(d:y.size<=64):LB ⟨k,⟨⟨#[]⟩,[]⟩,x,y⟩:=
 ⟨hk,⟨B5a (Nat.zero_le _),λz hz=>by cases hz⟩,B5a (by show x.size<=_;omega),B5a (by show y.size<=_;omega)⟩
theorem B9F{k:Int}(c:(B5p s (B4j k))[0]?=some x)(d:(B5p s (B4j k))[1]?=some y):B7L s k=⟨k,⟨⟨#[]⟩,[]⟩,x,y⟩:=by unfold B7L;rw[B5N c,B5E d];rfl
theorem C0s{k:Int}(hl:(B5p s (B4j k)).length=2)(c:(B5p s (B4j k))[0]?=some x)(d:(B5p s (B4j k))[1]?=some y)(h:BD ⟨k,⟨⟨#[]⟩,[]⟩,x,y⟩=true):B5f s k=true:=by
 rw[<-B9F c d] at h;simp[B5f,B5w,hl,h]
theorem B9G{k:Int}(hl:(B5p s (B4j k)).length≠2):B5f s k=false:=by simp[B5f,B5w,hl]
theorem B9H{k:Int}(c:(B5p s (B4j k))[0]?=some x)(d:(B5p s (B4j k))[1]?=some y)(h:BD ⟨k,⟨⟨#[]⟩,[]⟩,x,y⟩=false):B5f s k=false:=by
 rw[<-B9F c d] at h;simp[B5f,h]
theorem B9k{k:Int}(h0:3<=k)(d:k<=5)(c:∀j:Int,3<=j->j<k->B5f s j=false)(h:B5f s k=true):B7L s k=C4E s/\true=C4O s:=by
 have hk:k=3\/k=4\/k=5:=by omega
 rcases hk with e|e|e<;>subst e
 ·simp[C4E,C4O,h]
 ·simp[C4E,C4O,h,c 3 (by omega) (by omega)]
 ·simp[C4E,C4O,h,c 3 (by omega) (by omega),c 4 (by omega) (by omega)]
theorem C5F{k:Int}(h0:3<=k)(e:k<=5)(l:∀j:Int,3<=j->j<k->B5f s j=false)(hl:(B5p s (B4j k)).length=2)(c:(B5p s (B4j k))[0]?=some x)(d:(B5p s (B4j k))[1]?=some y)(h:BD ⟨k,⟨⟨#[]⟩,[]⟩,x,y⟩=true):(⟨k,⟨⟨#[]⟩,[]⟩,x,y⟩:Cond)=C4E s/\true=C4O s:=by
 have:=B9k h0 e l (C0s hl c d h);rw[B9F c d] at this;exact this
theorem B7O{k:Int}(d:¬k<=5)(c:∀j:Int,3<=j->j<k->B5f s j=false):(if B5t s=true then B8o s else z0K)=C4E s/\B5t s=C4O s:=by
 simp[C4E,C4O,c 3 (by omega) (by omega),c 4 (by omega) (by omega),c 5 (by omega) (by omega)]
theorem fS(h1:4<s.size)(c:s.extract 0 4=⟨#[110,111,116,32]⟩):B6Z s=true:=by simp[B6Z,h1,c]
theorem C4x(h1:¬4<s.size):B6Z s=false:=by simp[B6Z,h1]
theorem cS(c:s.extract 0 4≠⟨#[110,111,116,32]⟩):B6Z s=false:=by simp[B6Z,c]
theorem C5B{k:Int}(c:¬k<=5)(d:∀j:Int,3<=j->j<k->B5f s j=false)(e:B6Z s=true)(hp:B4m (s.extract 4 s.size)=false):z0K=C4E s/\false=C4O s:=by
 have h:=B7O c d;have hc:B5t s=false:=by unfold B5t;rw[if_pos e,hp]
 rw[hc] at h;exact⟨by rw[<-h.1];rfl,h.2⟩
theorem C5C{k:Int}(d:¬k<=5)(e:∀j:Int,3<=j->j<k->B5f s j=false)(c:B6Z s=true)(hp:B4m (s.extract 4 s.size)=true):(⟨2,bG (s.extract 4 s.size),⟨#[]⟩,⟨#[]⟩⟩:Cond)=C4E s/\true=C4O s:=by
 have h:=B7O d e;have hc:B5t s=true:=by unfold B5t;rw[if_pos c,hp]
 rw[hc] at h;exact⟨by rw[<-h.1,if_pos rfl];unfold B8o;rw[if_pos c],h.2⟩
theorem C4u{k:Int}(c:¬k<=5)(d:∀j:Int,3<=j->j<k->B5f s j=false)(e:B6Z s=false)(hp:B4m s=false):z0K=C4E s/\false=C4O s:=by
 have h:=B7O c d;have hc:B5t s=false:=by unfold B5t;rw[e,hp];rfl
 rw[hc] at h;exact⟨by rw[<-h.1];rfl,h.2⟩
theorem C4v{k:Int}(d:¬k<=5)(e:∀j:Int,3<=j->j<k->B5f s j=false)(c:B6Z s=false)(hp:B4m s=true):(⟨1,bG s,⟨#[]⟩,⟨#[]⟩⟩:Cond)=C4E s/\true=C4O s:=by
 have h:=B7O d e;have hc:B5t s=true:=by unfold B5t;rw[c,hp];rfl
 rw[hc] at h;exact⟨by rw[<-h.1,if_pos rfl];unfold B8o;rw[c];rfl,h.2⟩
theorem B9I(h:s.size<=64):BW (C4E s)<=4400/\okI (C4E s).Kind:=by
 have ht:∀k:Int,3<=k->k<=5->BW (B7L s k)<=4400/\okI (B7L s k).Kind:=λk c d=>by
  have h1:=B9D s (B4j k);have e:=B7o s (B4j k);refine⟨?_,by show okI k;unfold okI;omega⟩;show E8 z0P+(at0 (B5p s (B4j k))).size+(at1 (B5p s (B4j k))).size<=_;have:E8 z0P=0:=by decide
  omega
 unfold C4E
 split
 ·exact ht 3 (by omega) (by omega)
 ·split
  ·exact ht 4 (by omega) (by omega)
  ·split
   ·exact ht 5 (by omega) (by omega)
   ·split
    ·unfold B8o
     split
     ·rw[B5k];have:=B7N (s:=s.extract 4 s.size) (Nat.le_trans (B4w _ _ _) h);exact⟨by omega,(⟨by decide,by decide⟩:okI 2)⟩
     ·rw[B5k];have:=B7N h;exact⟨by omega,(⟨by decide,by decide⟩:okI 1)⟩
    ·exact⟨by decide,by show okI 0;unfold okI;omega⟩
theorem C5G(h:s=B6T):(⟨3,z0P⟩:Action)=C4P s/\true=B4q s:=by simp[C4P,B4q,h]
theorem B9J(h0:s≠B6T)(h:B7k s=false):(⟨0,z0P⟩:Action)=C4P s/\false=B4q s:=by simp[C4P,B4q,h0,h]
theorem C5H(h0:s≠B6T)(h:(B5p s ⟨#[32]⟩).length≠2):(⟨0,z0P⟩:Action)=C4P s/\false=B4q s:=B9J h0 (by simp[B7k,B5w,h])
theorem B4W(h0:s≠B6T)(c:(B5p s ⟨#[32]⟩)[0]?=some x)(h1:x≠B8P)(d:x≠B8C):(⟨0,z0P⟩:Action)=C4P s/\false=B4q s:=B9J h0 (by simp[B7k,B5N c,h1,d])
theorem B4X(h0:s≠B6T)(hl:(B5p s ⟨#[32]⟩).length=2)(c:(B5p s ⟨#[32]⟩)[0]?=some x)(d:(B5p s ⟨#[32]⟩)[1]?=some y)(h1:x=B8P):(⟨1,bG y⟩:Action)=C4P s/\B4m y=B4q s:=by
 simp[C4P,B4q,B7k,B5w,h0,hl,B5N c,B5E d,h1]
theorem B4Y(h0:s≠B6T)(hl:(B5p s ⟨#[32]⟩).length=2)(c:(B5p s ⟨#[32]⟩)[0]?=some x)(d:(B5p s ⟨#[32]⟩)[1]?=some y)(e:x≠B8P)(h1:x=B8C):(⟨2,bG y⟩:Action)=C4P s/\B4m y=B4q s:=by
 have:B8C≠B8P:=by decide
 simp[C4P,B4q,B7k,B5w,h0,hl,B5N c,B5E d,h1,this]
theorem B9l(h:s.size<=64):CV (C4P s)<=4400/\okI (C4P s).Kind:=by
 unfold C4P
 split
 ·exact⟨by decide,by show okI 3;unfold okI;omega⟩
 ·split
  ·have h1:=B7N (s:=at1 (B5p s ⟨#[32]⟩)) (Nat.le_trans (B7o _ _) h);refine⟨by show E8 (bG _)<=_;omega,?_⟩;show okI (if _ then 1 else 2)
   split<;>(unfold okI;omega)
  ·exact⟨by decide,by show okI 0;unfold okI;omega⟩
end
@[irreducible] def B4p (n : ByteArray) (p : Int) (a b : ByteArray) : Rule := ⟨n, p, ((ifL a).takeWhile C4O).map C4E, if (ifL a).all C4O = true then ((ifL b).takeWhile B4q).map C4P else []⟩
theorem B8H{α:Type}{p:α->Bool}{l:List α}{k:Nat}{x:α}(h:l[k]?=some x)(c:(l.take k).all p=true)(d:p x=true):(l.take (k+1)).all p=true:=by
 rw[A1 h,List.all_append,c];simp[d]
theorem B6P{α:Type}{p:α->Bool}:∀{l:List α},l.all p=true->l.takeWhile p=l
 | [],_=>rfl
 | x::l,h=>by
  simp only[List.all_cons,Bool.and_eq_true] at h;rw[List.takeWhile_cons,if_pos h.1,B6P h.2]
theorem B7P{α:Type}{p:α->Bool}:∀{l:List α} {k:Nat} {x:α},l[k]?=some x->(l.take k).all p=true->p x=false->l.takeWhile p=l.take k/\l.all p=false
 | [],_,_,h,_,_=>by cases h
 | y::l,0,x,h,_,hx=>by
  have e:y=x:=Option.some.inj h;subst e;simp[List.takeWhile_cons,hx]
 | y::l,k+1,x,h,hi,hx=>by
  simp only[List.take_succ_cons,List.all_cons,Bool.and_eq_true] at hi;have:=B7P (l:=l) (k:=k) (x:=x) (by simpa using h) hi.2 hx;rw[List.takeWhile_cons,if_pos hi.1,this.1];simp[hi.1,this.2]
section
variable {n a b x:ByteArray} {p:Int} {i j:Nat}
theorem B5W(c:(ifL a)[i]?=some x)(d:((ifL a).take i).all C4O=true)(h:C4O x=false):(⟨n,p,((ifL a).take i).map C4E,[]⟩:Rule)=B4p n p a b/\false=B5T ⟨n,p,[],[]⟩ a b:=by
 have:=B7P c d h;simp[B4p,B5T,this.1,this.2]
theorem B5X(d:(ifL a).length<=i)(c:((ifL a).take i).all C4O=true)(e:(ifL b)[j]?=some x)(k:((ifL b).take j).all B4q=true)(h:B4q x=false):(⟨n,p,((ifL a).take i).map C4E,((ifL b).take j).map C4P⟩:Rule)=B4p n p a b/\false=B5T ⟨n,p,[],[]⟩ a b:=by
 have:=B7P e k h;rw[List.take_of_length_le d] at c⊢;simp[B4p,B5T,c,B6P c,this.1,this.2]
theorem B5v(d:(ifL a).length<=i)(c:((ifL a).take i).all C4O=true)(e:(ifL b).length<=j)(hb:((ifL b).take j).all B4q=true):(⟨n,p,((ifL a).take i).map C4E,((ifL b).take j).map C4P⟩:Rule)=B4p n p a b/\CR ⟨n,p,((ifL a).take i).map C4E,((ifL b).take j).map C4P⟩=B5T ⟨n,p,[],[]⟩ a b:=by
 rw[List.take_of_length_le d] at c⊢;rw[List.take_of_length_le e] at hb⊢;refine⟨by simp[B4p,c,B6P c,B6P hb],?_⟩;simp[B5T,B8p,c,hb]
theorem B9K(h:n.size<=64)(hp:okI p)(h1:a.size<=64)(d:b.size<=64)(i j:Nat):H9 ⟨n,p,((ifL a).take i).map C4E,((ifL b).take j).map C4P⟩/\BG ⟨n,p,((ifL a).take i).map C4E,((ifL b).take j).map C4P⟩<=1048576:=by
 have hc:∀x∈((ifL a).take i).map C4E,BW x<=4400/\okI x.Kind:=λx hx=>by
  obtain⟨y,hy,e⟩:=List.mem_map.1 hx;rw[<-e];exact B9I (Nat.le_trans (B5m (List.mem_of_mem_take hy)) h1)
 have ha:∀x∈((ifL b).take j).map C4P,CV x<=4400/\okI x.Kind:=λx hx=>by
  obtain⟨y,hy,e⟩:=List.mem_map.1 hx;rw[<-e];exact B9l (Nat.le_trans (B5m (List.mem_of_mem_take hy)) d)
 have k:(((ifL a).take i).map C4E).length<=65:=by
  rw[List.length_map,List.length_take];have:=B5n (s:=a) (sep:=⟨#[32,38,32]⟩) (by decide);unfold ifL;omega
 have l:(((ifL b).take j).map C4P).length<=65:=by
  rw[List.length_map,List.length_take];have:=B5n (s:=b) (sep:=⟨#[32,38,32]⟩) (by decide);unfold ifL;omega
 have m:=A9m (c:=BW) (λx hx=>(hc x hx).1);have o:=A9m (c:=CV) (λx hx=>(ha x hx).1);refine⟨⟨B5a (by show n.size<=_;omega),hp,λx hx=>B8x (hc x hx).2 (by have:=(hc x hx).1;omega),λx hx=>B8y (ha x hx).2 (by have:=(ha x hx).1;omega)⟩,?_⟩;show n.size+DD BW (((ifL a).take i).map C4E)+DD CV (((ifL b).take j).map C4P)<=_;omega
theorem C0P(h:B5T ⟨n,p,[],[]⟩ a b=true):B4p n p a b=B8p ⟨n,p,[],[]⟩ a b:=by
 simp only[B5T,Bool.and_eq_true] at h;simp[B4p,B8p,h.1,B6P h.1,B6P h.2.1]
end
theorem C0Q(s:ByteArray):0<=pI s/\pI s<=9999:=by
 unfold pI pQ
 cases h:pNb 10000 s with
 |none=>simp
 | some n=>
  unfold pNb at h;have:=List.mem_of_find?_eq_some h;rw[List.mem_range] at this;simp;omega
theorem C0B(s:ByteArray):okI (pI s):=by have:=C0Q s;unfold okI;omega
section
variable {s x y u v f g:ByteArray}
theorem B6g(h:B5K s=false):z0R=B4o s/\false=B5K s:=by simp[B4o,h]
theorem B4b(h:(B5p s ⟨#[58,32]⟩).length≠2):z0R=B4o s/\false=B5K s:=B6g (by simp[B5K,B7l,B5w,h])
theorem B4c(c:(B5p s ⟨#[58,32]⟩)[0]?=some x)(h:(B5p x ⟨#[32]⟩).length≠2):z0R=B4o s/\false=B5K s:=B6g (by simp[B5K,B7l,B5w,hdL,B5N c,h])
theorem B4d(c:(B5p s ⟨#[58,32]⟩)[1]?=some y)(h:(B5p y ⟨#[32,45,62,32]⟩).length≠2):z0R=B4o s/\false=B5K s:=B6g (by simp[B5K,B7l,B5w,bdL,B5E c,h])
theorem B4e(c:(B5p s ⟨#[58,32]⟩)[0]?=some x)(d:(B5p x ⟨#[32]⟩)[1]?=some v)(h:pO v=false):z0R=B4o s/\false=B5K s:=B6g (by simp[B5K,hdL,B5N c,B5E d,h])
theorem C0C(q:(B5p s ⟨#[58,32]⟩).length=2)(c:(B5p s ⟨#[58,32]⟩)[0]?=some x)(d:(B5p s ⟨#[58,32]⟩)[1]?=some y)(r:(B5p x ⟨#[32]⟩).length=2)(t:(B5p y ⟨#[32,45,62,32]⟩).length=2)
  (hu:(B5p x ⟨#[32]⟩)[0]?=some u) (w:(B5p x ⟨#[32]⟩)[1]?=some v) (z:(B5p y ⟨#[32,45,62,32]⟩)[0]?=some f) (hg:(B5p y ⟨#[32,45,62,32]⟩)[1]?=some g) (hp:pO v=true):
  B5K s=B5T ⟨u,pI v,[],[]⟩ f g/\(B5T ⟨u,pI v,[],[]⟩ f g=true->B4p u (pI v) f g=B4o s):=by
 have e:at0 (hdL s)=u:=by unfold hdL;rw[B5N c,B5N hu]
 have k:at1 (hdL s)=v:=by unfold hdL;rw[B5N c,B5E w]
 have l:at0 (bdL s)=f:=by unfold bdL;rw[B5E d,B5N z]
 have m:at1 (bdL s)=g:=by unfold bdL;rw[B5E d,B5E hg]
 have e5:B7l s=true:=by simp[B7l,B5w,hdL,bdL,B5N c,B5E d,q,r,t]
 have o:B5K s=B5T ⟨u,pI v,[],[]⟩ f g:=by simp[B5K,B8Q,e,k,l,m,e5,hp]
 refine⟨o,λh=>?_⟩;rw[C0P h];unfold B4o;rw[if_pos (o.trans h)];unfold B8Q;rw[e,k,l,m]
theorem B4f(c:(B5p s ⟨#[58,32]⟩).length=2)(d:(B5p s ⟨#[58,32]⟩)[0]?=some x)(e:(B5p s ⟨#[58,32]⟩)[1]?=some y)(k:(B5p x ⟨#[32]⟩).length=2)(l:(B5p y ⟨#[32,45,62,32]⟩).length=2)
  (hu:(B5p x ⟨#[32]⟩)[0]?=some u) (m:(B5p x ⟨#[32]⟩)[1]?=some v) (o:(B5p y ⟨#[32,45,62,32]⟩)[0]?=some f) (q:(B5p y ⟨#[32,45,62,32]⟩)[1]?=some g) (hp:pO v=true) (h:B5T ⟨u,pI v,[],[]⟩ f g=false):z0R=B4o s/\false=B5K s:=
 B6g (by rw[(C0C c d e k l hu m o q hp).1,h])
theorem B4g(c:(B5p s ⟨#[58,32]⟩).length=2)(d:(B5p s ⟨#[58,32]⟩)[0]?=some x)(e:(B5p s ⟨#[58,32]⟩)[1]?=some y)(l:(B5p x ⟨#[32]⟩).length=2)(m:(B5p y ⟨#[32,45,62,32]⟩).length=2)
  (hu:(B5p x ⟨#[32]⟩)[0]?=some u) (o:(B5p x ⟨#[32]⟩)[1]?=some v) (q:(B5p y ⟨#[32,45,62,32]⟩)[0]?=some f) (r:(B5p y ⟨#[32,45,62,32]⟩)[1]?=some g) (hp:pO v=true) (h:B5T ⟨u,pI v,[],[]⟩ f g=true):B4p u (pI v) f g=B4o s/\true=B5K s:=
 have k:=C0C c d e l m hu o q r hp
 ⟨k.2 h,by rw[k.1,h]⟩
theorem B9L{s:ByteArray}(h:s∈known):s.size<=64:=of_decide_eq_true (List.all_eq_true.1 (by decide:known.all (λx=>decide (x.size<=64))=true) s h)
end
end Go.Sy
