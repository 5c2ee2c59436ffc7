/-
  What is drawn: rules.
  Conditions: those that each theorem states.
-/
import Derived.Test.YtbnpgdcpbmaebaaGreatDoorPrl
namespace Go.Sy
open Go
def smR(r:Rule):Prop:=r.Name.size<=16/\(-1<=r.Priority/\r.Priority<=10)/\(∀x∈r.If,BW x<=100/\okI x.Kind)/\r.If.length<=6/\(∀a∈r.Then,CV a<=100/\okI a.Kind)/\r.Then.length<=4
theorem B6m{r:Rule}(h:smR r):H9 r/\BG r<=1100:=by
 obtain⟨h1,d,a,e,b,f⟩:=h;have g:=A9m (c:=BW) (λx hx=>(a x hx).1);have i:=A9m (c:=CV) (λx hx=>(b x hx).1);refine⟨⟨B5a (by omega),by unfold okI;omega,λx hx=>B8x (a x hx).2 (by have:=(a x hx).1;omega),λx hx=>B8y (b x hx).2 (by have:=(b x hx).1;omega)⟩,?_⟩;unfold BG;omega
section
variable {r:Rule}
theorem C0S{n:ByteArray}(h:smR r)(a:n.size<=16):smR ⟨n,r.Priority,r.If,r.Then⟩:=⟨a,h.2⟩
theorem C0T{p:Int}(h:smR r)(hp: -1<=p/\p<=10):smR ⟨r.Name,p,r.If,r.Then⟩:=⟨h.1,hp,h.2.2⟩
theorem C0U{x:Cond}(h:smR r)(hl:r.If.length<=4)(a:BW x<=40/\okI x.Kind):smR ⟨r.Name,r.Priority,r.If++ [x],r.Then⟩:=
 ⟨h.1,h.2.1,B6E h.2.2.1 ⟨by omega,a.2⟩,by rw[List.length_append,List.length_singleton];omega,h.2.2.2.2⟩
theorem B9N{k:Int}{p:Pattern}(h:smR r)(hl:r.Then.length<=2)(hk:okI k)(hp:E8 p<=20):smR ⟨r.Name,r.Priority,r.If,r.Then++ [⟨k,p⟩]⟩:=
 ⟨h.1,h.2.1,h.2.2.1,h.2.2.2.1,B6E h.2.2.2.2.1 ⟨by show E8 p<=100;omega,hk⟩,by rw[List.length_append,List.length_singleton];omega⟩
theorem C0V(h:smR r):smR ⟨r.Name,r.Priority,r.If.drop 1,r.Then⟩:=
 ⟨h.1,h.2.1,λx hx=>h.2.2.1 x (List.mem_of_mem_drop hx),by have:=h.2.2.2.1;rw[List.length_drop];omega,h.2.2.2.2⟩
theorem C0W(h:smR r):smR ⟨r.Name,r.Priority,r.If,r.Then.drop 1⟩:=
 ⟨h.1,h.2.1,h.2.2.1,h.2.2.2.1,λx hx=>h.2.2.2.2.1 x (List.mem_of_mem_drop hx),by have:=h.2.2.2.2.2;rw[List.length_drop];omega⟩
theorem B9m{c1 c2 c3:Cond}{a:Action}(h:smR r)(h1:BW c1<=100/\okI c1.Kind)(c:BW c2<=100/\okI c2.Kind)(d:BW c3<=100/\okI c3.Kind)(b:CV a<=100/\okI a.Kind):smR ⟨r.Name,r.Priority,[c1,c2,c3],[a]⟩:=by
 refine⟨h.1,h.2.1,λx hx=>?_,by show 3<=6;decide,λx hx=>?_,by show 1<=4;decide⟩
 ·simp only[List.mem_cons,List.not_mem_nil,or_false] at hx
  rcases hx with e|e|e<;>rw[e]<;>assumption
 ·simp only[List.mem_cons,List.not_mem_nil,or_false] at hx;rw[hx];exact b
theorem C0v{x:ByteArray}(h:x.size<=2):BW ⟨1,⟨⟨#[116]⟩,[⟨#[63,100]⟩,⟨#[63,101]⟩,x]⟩,⟨#[]⟩,⟨#[]⟩⟩<=100/\okI (⟨1,⟨⟨#[116]⟩,[⟨#[63,100]⟩,⟨#[63,101]⟩,x]⟩,⟨#[]⟩,⟨#[]⟩⟩:Cond).Kind:=by
 refine⟨?_,(⟨by decide,by decide⟩:okI 1)⟩;rw[B5k,B5D,show([⟨#[63,100]⟩,⟨#[63,101]⟩,x]:List ByteArray)=[⟨#[63,100]⟩,⟨#[63,101]⟩]++ [x] from rfl,B4i];show 1+(6+1+x.size)<=100;omega
theorem C0w{x:ByteArray}{k:Int}(h:x.size<=2)(hk:okI k):BW ⟨k,⟨⟨#[117]⟩,[x]⟩,⟨#[]⟩,⟨#[]⟩⟩<=100/\okI (⟨k,⟨⟨#[117]⟩,[x]⟩,⟨#[]⟩,⟨#[]⟩⟩:Cond).Kind:=by
 refine⟨?_,hk⟩;rw[B5k,B5D,show([x]:List ByteArray)=[]++ [x] from rfl,B4i];show 1+(0+1+x.size)<=100;omega
theorem B9O{p k:Int}{cs:List Cond}{q:ByteArray}{b:List ByteArray}(hp:0<=p/\p<=4)(d:∀x∈cs,BW x<=100/\okI x.Kind)(hl:cs.length<=6)(hk:okI k)(g:q.size<=8)(e:∀x∈b,x.size<=8)(f:b.length<=8):smR ⟨⟨#[114]⟩,p,cs,[]++ [⟨k,⟨q,b⟩⟩]⟩:=by
 refine⟨by show 1<=16;decide,by show-1<=p/\p<=10;omega,d,hl,λa hm=>?_,by show 1<=4;decide⟩;simp only[List.nil_append,List.mem_singleton] at hm;subst hm;refine⟨?_,hk⟩;have:=A9m (c:=λx:ByteArray=>x.size) e;show q.size+M9 b<=100;unfold DD AI at this;unfold M9;omega
theorem B9n{p k:Int}{cs:List Cond}{q:ByteArray}{a:List ByteArray}(hp:0<=p/\p<=4)(b:∀x∈cs,BW x<=100/\okI x.Kind)(hl:cs.length<=6)(hk:okI k)(d:q.size<=8)(e:∀x∈a,x.size<=8)(c:a.length<=8):H9 ⟨⟨#[114]⟩,p,cs,[]++ [⟨k,⟨q,a⟩⟩]⟩/\BG ⟨⟨#[114]⟩,p,cs,[]++ [⟨k,⟨q,a⟩⟩]⟩<=1048576:=
 have h:=B6m (B9O hp b hl hk d e c)
 ⟨h.1,Nat.le_trans h.2 (by decide)⟩
theorem B9o{p k:Int}{cs:List Cond}{q:ByteArray}{a:List ByteArray}(hp:0<=p/\p<=4)(b:∀x∈cs,BW x<=100/\okI x.Kind)(hl:cs.length<=6)(hk:okI k)(d:q.size<=8)(e:∀x∈a,x.size<=8)(c:a.length<=8):H9 ⟨⟨#[114]⟩,p,cs,[]++ [⟨k,⟨q,a⟩⟩]++ [⟨3,⟨⟨#[]⟩,[]⟩⟩]⟩/\BG ⟨⟨#[114]⟩,p,cs,[]++ [⟨k,⟨q,a⟩⟩]++ [⟨3,⟨⟨#[]⟩,[]⟩⟩]⟩<=1048576:=
 have h:=B6m (B9N (r:=⟨⟨#[114]⟩,p,cs,[]++ [⟨k,⟨q,a⟩⟩]⟩) (k:=3) (p:=⟨⟨#[]⟩,[]⟩) (B9O hp b hl hk d e c) (by show 1<=2;decide) ⟨by decide,by decide⟩ (by decide))
 ⟨h.1,Nat.le_trans h.2 (by decide)⟩
theorem B9P{p:Pattern}(h:E8 p<=8):∀x∈ [(⟨1,p,⟨#[]⟩,⟨#[]⟩⟩:Cond)],BW x<=100/\okI x.Kind:=λx hx=>by
 simp only[List.mem_singleton] at hx;subst hx;exact⟨by rw[B5k];omega,(⟨by decide,by decide⟩:okI 1)⟩
end
theorem B9p{x:Cond}(h:BD x=true):okI x.Kind:=by
 unfold BD at h
 split at h
 ·unfold okI;omega
 ·split at h
  ·unfold okI;omega
  ·cases h
theorem C0X{a:Action}(h:D3 a=true):okI a.Kind:=by
 unfold D3 at h
 split at h
 ·unfold okI;omega
 ·split at h
  ·unfold okI;omega
  ·cases h
theorem B6L{r:Rule}(h:CR r=true):smR r/\(1<=r.If.length/\r.If.length<=4)/\1<=r.Then.length/\r.Then.length<=2:=by
 unfold CR GO at h;simp only[Bool.and_eq_true,decide_eq_true_eq,List.all_eq_true,List.mem_range] at h;have h1:=A9x h.1;refine⟨⟨by omega,by omega,λx hx=>?_,by omega,λa ha=>?_,by omega⟩,by omega,by omega,by omega⟩
 ·obtain⟨k,hk⟩:=List.getElem?_of_mem hx;have:=h.2.2.2.2.1 k (lS hk);unfold GP at this;rw[hk] at this;simp only[Bool.and_eq_true] at this;exact⟨by have:=B1Z this.1;omega,B9p this.1⟩
 ·have:=h.2.2.2.2.2.1 a ha;unfold IG at this;simp only[Bool.and_eq_true] at this;exact⟨by have:=B1v this.1;omega,C0X this.1⟩
end Go.Sy
