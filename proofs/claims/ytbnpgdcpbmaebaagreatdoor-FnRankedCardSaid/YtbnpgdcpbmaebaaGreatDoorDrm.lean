/-
  What is drawn: rules.
  Conditions: those that each theorem states.
-/
import Derived.Test.YtbnpgdcpbmaebaaGreatDoorPrl
namespace Go.Sy
open Go
def smR(r:Rule):Prop:=r.Name.size<=16/\(-1<=r.Priority/\r.Priority<=10)/\(∀x∈r.If,BW x<=100/\okI x.Kind)/\r.If.length<=6/\(∀a∈r.Then,CV a<=100/\okI a.Kind)/\r.Then.length<=4
theorem B6m{r:Rule}(h:smR r):H9 r/\BG r<=1100:=by
 obtain⟨h1,d,a,e,b,f⟩:=h;have g:=A9m (c:=BW) (λx hx=>(a x hx).1);have i:=A9m (c:=CV) (λx hx=>(b x hx).1);refine⟨⟨B5a (by omega),by unfold okI;omega,λx hx=>B8x (a x hx).2 (by have:=(a x hx).1;omega),λx hx=>B8y (b x hx).2 (by have:=(b x hx).1;omega)⟩,?_⟩;unfold BG;omega
section
variable {r:Rule}
theorem B9N{k:Int}{p:Pattern}(h:smR r)(hl:r.Then.length<=2)(hk:okI k)(hp:E8 p<=20):smR ⟨r.Name,r.Priority,r.If,r.Then++ [⟨k,p⟩]⟩:=
 ⟨h.1,h.2.1,h.2.2.1,h.2.2.2.1,B6E h.2.2.2.2.1 ⟨by show E8 p<=100;omega,hk⟩,by rw[List.length_append,List.length_singleton];omega⟩
theorem B9O{p k:Int}{cs:List Cond}{q:ByteArray}{b:List ByteArray}(hp:0<=p/\p<=4)(d:∀x∈cs,BW x<=100/\okI x.Kind)(hl:cs.length<=6)(hk:okI k)(g:q.size<=8)(e:∀x∈b,x.size<=8)(f:b.length<=8):smR ⟨⟨#[114]⟩,p,cs,[]++ [⟨k,⟨q,b⟩⟩]⟩:=by
 refine⟨by show 1<=16;decide,by show-1<=p/\p<=10;omega,d,hl,λa hm=>?_,by show 1<=4;decide⟩;simp only[List.nil_append,List.mem_singleton] at hm;subst hm;refine⟨?_,hk⟩;have:=A9m (c:=λx:ByteArray=>x.size) e;show q.size+M9 b<=100;unfold DD AI at this;unfold M9;omega
theorem B9n{p k:Int}{cs:List Cond}{q:ByteArray}{a:List ByteArray}(hp:0<=p/\p<=4)(b:∀x∈cs,BW x<=100/\okI x.Kind)(hl:cs.length<=6)(hk:okI k)(d:q.size<=8)(e:∀x∈a,x.size<=8)(c:a.length<=8):H9 ⟨⟨#[114]⟩,p,cs,[]++ [⟨k,⟨q,a⟩⟩]⟩/\BG ⟨⟨#[114]⟩,p,cs,[]++ [⟨k,⟨q,a⟩⟩]⟩<=1048576:=
 have h:=B6m (B9O hp b hl hk d e c)
 ⟨h.1,Nat.le_trans h.2 (by decide)⟩
theorem B9o{p k:Int}{cs:List Cond}{q:ByteArray}{a:List ByteArray}(hp:0<=p/\p<=4)(b:∀x∈cs,BW x<=100/\okI x.Kind)(hl:cs.length<=6)(hk:okI k)(d:q.size<=8)(e:∀x∈a,x.size<=8)(c:a.length<=8):H9 ⟨⟨#[114]⟩,p,cs,[]++ [⟨k,⟨q,a⟩⟩]++ [⟨3,⟨⟨#[]⟩,[]⟩⟩]⟩/\BG ⟨⟨#[114]⟩,p,cs,[]++ [⟨k,⟨q,a⟩⟩]++ [⟨3,⟨⟨#[]⟩,[]⟩⟩]⟩<=1048576:=
 have h:=B6m (B9N (r:=⟨⟨#[114]⟩,p,cs,[]++ [⟨k,⟨q,a⟩⟩]⟩) (k:=3) (p:=⟨⟨#[]⟩,[]⟩) (B9O hp b hl hk d e c) (by show 1<=2;decide) ⟨by decide,by decide⟩ (by decide))
 ⟨h.1,Nat.le_trans h.2 (by decide)⟩
theorem B9P{p:Pattern}(h:E8 p<=8):∀x∈ [(⟨1,p,⟨#[]⟩,⟨#[]⟩⟩:Cond)],BW x<=100/\okI x.Kind:=λx hx=>by
 simp only[List.mem_singleton] at hx;subst hx;exact⟨by rw[B5k];omega,(⟨by decide,by decide⟩:okI 1)⟩
end
theorem B9p{x:Cond}(h:BD x=true):okI x.Kind:=by
 unfold BD at h
 split at h
 ·unfold okI;omega
 ·split at h
  ·unfold okI;omega
  ·cases h
theorem C0X{a:Action}(h:D3 a=true):okI a.Kind:=by
 unfold D3 at h
 split at h
 ·unfold okI;omega
 ·split at h
  ·unfold okI;omega
  ·cases h
theorem B6L{r:Rule}(h:CR r=true):smR r/\(1<=r.If.length/\r.If.length<=4)/\1<=r.Then.length/\r.Then.length<=2:=by
 unfold CR GO at h;simp only[Bool.and_eq_true,decide_eq_true_eq,List.all_eq_true,List.mem_range] at h;have h1:=A9x h.1;refine⟨⟨by omega,by omega,λx hx=>?_,by omega,λa ha=>?_,by omega⟩,by omega,by omega,by omega⟩
 ·obtain⟨k,hk⟩:=List.getElem?_of_mem hx;have:=h.2.2.2.2.1 k (lS hk);unfold GP at this;rw[hk] at this;simp only[Bool.and_eq_true] at this;exact⟨by have:=B1Z this.1;omega,B9p this.1⟩
 ·have:=h.2.2.2.2.2.1 a ha;unfold IG at this;simp only[Bool.and_eq_true] at this;exact⟨by have:=B1v this.1;omega,C0X this.1⟩
theorem C3Y{r:Rule}{n:ByteArray}(h:CR r=true)(a:FK n=true):CR ⟨n,r.Priority,r.If,r.Then⟩=true:=by
 unfold CR at h⊢;rw[Bool.and_eq_true] at h;rw[Bool.and_eq_true];exact⟨a,h.2⟩
def rNm(n:Int):ByteArray:=⟨#[114]⟩++ES n
theorem C2m:([1,2,3,4]:List Int).all (λm=>FK (rNm m)&&([1,2,3,4]:List Int).all (λn=>decide (m=n)|| !decide (rNm m=rNm n)))=true:=by kernel_rfl
theorem C2W{n:Int}(h:1<=n/\n<=4):n∈([1,2,3,4]:List Int):=by
 simp only[List.mem_cons,List.not_mem_nil,or_false];omega
theorem C3F{n:Int}(h:1<=n/\n<=4):FK (rNm n)=true:=by
 have:=List.all_eq_true.1 C2m n (C2W h);rw[Bool.and_eq_true] at this;exact this.1
theorem C3Z{m n:Int}(a:1<=m/\m<=4)(b:1<=n/\n<=4)(h:rNm m=rNm n):m=n:=by
 have:=List.all_eq_true.1 C2m m (C2W a);rw[Bool.and_eq_true] at this;have:=List.all_eq_true.1 this.2 n (C2W b);rw[Bool.or_eq_true] at this
 rcases this with h1|h1
 ·exact odT h1
 ·rw[decide_eq_true h] at h1;cases h1
def C3G(l:List Rule)(n:Int):Prop:=∀(i:Nat) (r:Rule),l[i]?=some r->CR r=true/\r.Name=rNm (n-i)
theorem C3H(n:Int):C3G [] n:=λi r h=>by cases h
theorem C2q{l:List Rule}{n m:Int}{r:Rule}(h:C3G l n)(hl:(l.length:Int)+m=n)(b:1<=m/\m<=4)(c:CR r=true):C3G (l++ [⟨⟨#[114]⟩++ES m,r.Priority,r.If,r.Then⟩]) n:=λi q hq=>by
 by_cases hi:i<l.length
 ·rw[List.getElem?_append_left hi] at hq;exact h i q hq
 ·have a:i=l.length:=by
   have:=lS hq;rw[List.length_append,List.length_singleton] at this;omega
  subst a;rw[List.getElem?_append_right (Nat.le_refl _),Nat.sub_self] at hq;obtain rfl:(⟨⟨#[114]⟩++ES m,r.Priority,r.If,r.Then⟩:Rule)=q:=Option.some.inj hq;have hnm:=C3F b;refine⟨C3Y c hnm,?_⟩;rw[show n-(l.length:Int)=m by omega];rfl
theorem C3I{l:List Rule}{n:Int}(h:C3G l n)(hl:(l.length:Int)<=n)(b:n<=4):AR l=true:=by
 unfold AR;simp only[Bool.and_eq_true,decide_eq_true_eq,List.all_eq_true,List.mem_range];refine⟨by omega,λi hi=>?_⟩;obtain⟨r,hr⟩:=sL hi;have h1:=h i r hr;refine jM hr h1.1 (qZ hr rfl (λj hj q hq e=>?_)).symm;have a:=h j q hq;have:=C3Z (m:=n-j) (n:=n-i) ⟨by omega,by omega⟩ ⟨by omega,by omega⟩ (by rw[<-a.2,<-h1.2,e]);omega
theorem C2n{l:List Rule}(h:AR l=true):LR H9 l/\DD BG l<=6606:=by
 have a:=YA h;have hm:∀r∈l,CR r=true:=λr hr=>by
  obtain⟨k,hk⟩:=List.getElem?_of_mem hr;exact(X9 h hk).1
 have hs:∀r∈l,H9 r/\BG r<=1100:=λr hr=>B6m (B6L (hm r hr)).1
 refine⟨λr hr=>(hs r hr).1,?_⟩;have:=A9m (c:=BG) (λr hr=>(hs r hr).2);omega
end Go.Sy
