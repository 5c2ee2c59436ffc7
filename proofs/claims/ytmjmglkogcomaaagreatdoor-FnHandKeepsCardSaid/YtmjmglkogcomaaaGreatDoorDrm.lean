/-
  What is drawn: rules.
  Conditions: those that each theorem states.
-/
import Derived.Test.YtmjmglkogcomaaaGreatDoorDrw
namespace Go.Sy
open Go
def smR(r:C1M):Prop:=r.y.size<=16/\(-1<=r.p3/\r.p3<=10)/\(∀x∈r.q,BW x<=100/\okI x.s)/\r.q.length<=6/\(∀a∈r.q0,CV a<=100/\okI a.s)/\r.q0.length<=4
theorem B6m{r:C1M}(h:smR r):H9 r/\BG r<=1100:=by
 obtain⟨h1,e,b,f,d,g⟩:=h;have i:=A9m (c:=BW) (λx a=>(b x a).1);have j:=A9m (c:=CV) (λx a=>(d x a).1);refine⟨⟨B5a (by omega),by unfold okI;omega,λx a=>B8x (b x a).2 (by have:=(b x a).1;omega),λx a=>B8y (d x a).2 (by have:=(d x a).1;omega)⟩,?_⟩;unfold BG;omega
section
variable {r:C1M}
theorem B9N{k:Int}{p:C1H}(h:smR r)(hl:r.q0.length<=2)(hk:okI k)(hp:E8 p<=20):smR ⟨r.y,r.p3,r.q,r.q0++ [⟨k,p⟩]⟩:=
 ⟨h.1,h.2.1,h.2.2.1,h.2.2.2.1,B6E h.2.2.2.2.1 ⟨by show E8 p<=100;omega,hk⟩,by rw[List.length_append,List.length_singleton];omega⟩
theorem B9O{p k:Int}{cs:List C1L}{q:ByteArray}{b:List ByteArray}(hp:0<=p/\p<=4)(d:∀x∈cs,BW x<=100/\okI x.s)(hl:cs.length<=6)(hk:okI k)(h:q.size<=8)(f:∀x∈b,x.size<=8)(g:b.length<=8):smR ⟨⟨#[114]⟩,p,cs,[]++ [⟨k,⟨q,b⟩⟩]⟩:=by
 refine⟨by show 1<=16;decide,by show-1<=p/\p<=10;omega,d,hl,λa e=>?_,by show 1<=4;decide⟩;simp only[List.nil_append,List.mem_singleton] at e;subst e;refine⟨?_,hk⟩;have:=A9m (c:=λx:ByteArray=>x.size) f;show q.size+M9 b<=100;unfold DD AI at this;unfold M9;omega
theorem B9n{p k:Int}{cs:List C1L}{q:ByteArray}{a:List ByteArray}(hp:0<=p/\p<=4)(b:∀x∈cs,BW x<=100/\okI x.s)(hl:cs.length<=6)(hk:okI k)(d:q.size<=8)(e:∀x∈a,x.size<=8)(c:a.length<=8):H9 ⟨⟨#[114]⟩,p,cs,[]++ [⟨k,⟨q,a⟩⟩]⟩/\BG ⟨⟨#[114]⟩,p,cs,[]++ [⟨k,⟨q,a⟩⟩]⟩<=1048576:=
 have h:=B6m (B9O hp b hl hk d e c)
 ⟨h.1,Nat.le_trans h.2 (by decide)⟩
theorem B9o{p k:Int}{cs:List C1L}{q:ByteArray}{a:List ByteArray}(hp:0<=p/\p<=4)(b:∀x∈cs,BW x<=100/\okI x.s)(hl:cs.length<=6)(hk:okI k)(d:q.size<=8)(e:∀x∈a,x.size<=8)(c:a.length<=8):H9 ⟨⟨#[114]⟩,p,cs,[]++ [⟨k,⟨q,a⟩⟩]++ [⟨3,⟨⟨#[]⟩,[]⟩⟩]⟩/\BG ⟨⟨#[114]⟩,p,cs,[]++ [⟨k,⟨q,a⟩⟩]++ [⟨3,⟨⟨#[]⟩,[]⟩⟩]⟩<=1048576:=
 have h:=B6m (B9N (r:=⟨⟨#[114]⟩,p,cs,[]++ [⟨k,⟨q,a⟩⟩]⟩) (k:=3) (p:=⟨⟨#[]⟩,[]⟩) (B9O hp b hl hk d e c) (by show 1<=2;decide) ⟨by decide,by decide⟩ (by decide))
 ⟨h.1,Nat.le_trans h.2 (by decide)⟩
theorem B9P{p:C1H}(h:E8 p<=8):∀x∈ [(⟨1,p,⟨#[]⟩,⟨#[]⟩⟩:C1L)],BW x<=100/\okI x.s:=λx a=>by
 simp only[List.mem_singleton] at a;subst a;exact⟨by rw[B5k];omega,(⟨by decide,by decide⟩:okI 1)⟩
end
theorem B9p{x:C1L}(h:BD x=true):okI x.s:=by
 unfold BD at h
 split at h
 ·unfold okI;omega
 ·split at h
  ·unfold okI;omega
  ·cases h
theorem C0X{a:Action}(h:D3 a=true):okI a.s:=by
 unfold D3 at h
 split at h
 ·unfold okI;omega
 ·split at h
  ·unfold okI;omega
  ·cases h
theorem B6L{r:C1M}(h:CR r=true):smR r/\(1<=r.q.length/\r.q.length<=4)/\1<=r.q0.length/\r.q0.length<=2:=by
 unfold CR GO at h;simp only[Bool.and_eq_true,decide_eq_true_eq,List.all_eq_true,List.mem_range] at h;have h1:=A9x h.1;refine⟨⟨by omega,by omega,λx c=>?_,by omega,λa d=>?_,by omega⟩,by omega,by omega,by omega⟩
 ·obtain⟨k,b⟩:=List.getElem?_of_mem c;have:=h.2.2.2.2.1 k (lS b);unfold GP at this;rw[b] at this;simp only[Bool.and_eq_true] at this;exact⟨by have:=B1Z this.1;omega,B9p this.1⟩
 ·have:=h.2.2.2.2.2.1 a d;unfold IG at this;simp only[Bool.and_eq_true] at this;exact⟨by have:=B1v this.1;omega,C0X this.1⟩
theorem C3Y{r:C1M}{n:ByteArray}(h:CR r=true)(a:FK n=true):CR ⟨n,r.p3,r.q,r.q0⟩=true:=by
 unfold CR at h⊢;rw[Bool.and_eq_true] at h;rw[Bool.and_eq_true];exact⟨a,h.2⟩
def rNm(n:Int):ByteArray:=⟨#[114]⟩++ES n
theorem C2m:([1,2,3,4]:List Int).all (λm=>FK (rNm m)&&([1,2,3,4]:List Int).all (λn=>decide (m=n)|| !decide (rNm m=rNm n)))=true:=by kernel_rfl
theorem C2W{n:Int}(h:1<=n/\n<=4):n∈([1,2,3,4]:List Int):=by
 simp only[List.mem_cons,List.not_mem_nil,or_false];omega
theorem C3F{n:Int}(h:1<=n/\n<=4):FK (rNm n)=true:=by
 have:=List.all_eq_true.1 C2m n (C2W h);rw[Bool.and_eq_true] at this;exact this.1
theorem C3Z{m n:Int}(a:1<=m/\m<=4)(b:1<=n/\n<=4)(h:rNm m=rNm n):m=n:=by
 have:=List.all_eq_true.1 C2m m (C2W a);rw[Bool.and_eq_true] at this;have:=List.all_eq_true.1 this.2 n (C2W b);rw[Bool.or_eq_true] at this
 rcases this with h1|h1
 ·exact odT h1
 ·rw[decide_eq_true h] at h1;cases h1
def C3G(l:List C1M)(n:Int):Prop:=∀(i:Nat) (r:C1M),l[i]?=some r->CR r=true/\r.y=rNm (n-i)
theorem C3H(n:Int):C3G [] n:=λi r h=>by cases h
theorem C2q{l:List C1M}{n m:Int}{r:C1M}(h:C3G l n)(hl:(l.length:Int)+m=n)(d:1<=m/\m<=4)(e:CR r=true):C3G (l++ [⟨⟨#[114]⟩++ES m,r.p3,r.q,r.q0⟩]) n:=λi q a=>by
 by_cases hi:i<l.length
 ·rw[List.getElem?_append_left hi] at a;exact h i q a
 ·have b:i=l.length:=by
   have:=lS a;rw[List.length_append,List.length_singleton] at this;omega
  subst b;rw[List.getElem?_append_right (Nat.le_refl _),Nat.sub_self] at a;obtain rfl:(⟨⟨#[114]⟩++ES m,r.p3,r.q,r.q0⟩:C1M)=q:=Option.some.inj a;have c:=C3F d;refine⟨C3Y e c,?_⟩;rw[show n-(l.length:Int)=m by omega];rfl
theorem C3I{l:List C1M}{n:Int}(h:C3G l n)(hl:(l.length:Int)<=n)(f:n<=4):AR l=true:=by
 unfold AR;simp only[Bool.and_eq_true,decide_eq_true_eq,List.all_eq_true,List.mem_range];refine⟨by omega,λi d=>?_⟩;obtain⟨r,a⟩:=sL d;have h1:=h i r a;refine jM a h1.1 (qZ a rfl (λj g q c e=>?_)).symm;have b:=h j q c;have:=C3Z (m:=n-j) (n:=n-i) ⟨by omega,by omega⟩ ⟨by omega,by omega⟩ (by rw[<-b.2,<-h1.2,e]);omega
theorem C2n{l:List C1M}(h:AR l=true):LR H9 l/\DD BG l<=6606:=by
 have f:=YA h;have d:∀r∈l,CR r=true:=λr a=>by
  obtain⟨k,e⟩:=List.getElem?_of_mem a;exact(X9 h e).1
 have b:∀r∈l,H9 r/\BG r<=1100:=λr a=>B6m (B6L (d r a)).1
 refine⟨λr a=>(b r a).1,?_⟩;have:=A9m (c:=BG) (λr a=>(b r a).2);omega
end Go.Sy
