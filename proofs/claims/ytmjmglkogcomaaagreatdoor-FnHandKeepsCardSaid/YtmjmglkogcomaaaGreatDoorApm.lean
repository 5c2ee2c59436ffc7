/-
  Lists of structs appended to lists: copied where their elements are flat, moved where they are owned; lists whose elements move out.
  Conditions: none.
-/
import Derived.Test.YtmjmglkogcomaaaGreatDoorOwn2
namespace Go.Sy
open Go Go.RowKit
def elc{α:Type} [Gd α](cs:List Value)(ys:List α):Chunk where
 ok w fp:=∃fps:List (List Nat),fp=fps.flatten/\fps.length=ys.length/\cs.length=ys.length*Gd.n α/\(∀u∈cs,u.oneCell'=true)/\∀(i:Nat) (x:α) (f:List Nat),ys[i]?=some x->fps[i]?=some f->Gd.ow w ((cs.drop (i*Gd.n α)).take (Gd.n α)) x f
 loc:=λw w' fp ⟨fps,h1,h2,h3,h4,h5⟩ hs=>by
  subst h1;exact⟨fps,rfl,h2,h3,h4,λi x f hx hf=>Gd.ow_loc (h5 i x f hx hf) (λg hg=>hs g (EG hf hg))⟩
def blk(g:Nat)(ob:Obj):Chunk where
 ok w fp:=fp=[g]/\w.heap[g]?=some ob
 loc:=λw w' fp ⟨h1,h2⟩ hs=>by
  subst h1;exact⟨rfl,by rw[hs g (by simp)];exact h2⟩
section
variable {P:Program} {N:Nat} {w0:World} {H:List Chunk} {L:Fm} {ops:Array Oper} {Q:Exit->Act->World->Prop} {o:Oper} {rest:List Oper} {d:Nat} {K:Act->World->Prop}
theorem sF{a:Act}{w:World}(hd:o.dst=some d)(b:Nat.blt d N=true)(c:Fits a N L)
  (e:∃v w',(execOp a.eval o).run P w= .ok (.value v) w'/\∀a',Fits a' N ((d,v)::L)->K a' w'):o.wp P a w K Q:=by
 obtain⟨v,w',h1,f⟩:=e;unfold Oper.wp;rw[h1];simp only[Oper.upon_value];rw[hd];exact f _ (c.put b v)
theorem A2A{α:Type} [Gd α] [Tid α]{t n b:Nat}{s x:Operand}{v z:Value}{ad:Addr}{cap:Nat}{l ys:List α}{yc:List Value}(ht:AT P t=some (Tid.id α,n,b))(hz:BV P (Tid.id α)=some z)(ak:z.cells.size=n)(ab:0<n)(al:Gd.n α=n)
  (ho:o.op= .call ⟨.builtin .append, #[s,x], #[t,t]⟩) (am:ev L s=some v) (hx:ev L x=some (.slice (some ad) ys.length cap)) (hd:o.dst=some d) (hN:Nat.blt d N=true)
  (ac:(l.length+ys.length)*b<=140737488355328) (b2:l.length+ys.length<=9223372036854775807)
  (k:∀v',D N w0 (ov [v'] (l++ys)::H) ((d,v')::L) K) (a:Act) (w:World) (hf:Fits a N L) (hs:St w0 (ov [v] l::elc yc ys::H) w) (a7:∀(j:Nat) u,yc[j]?=some u->w.cell? (ad.add j)=some u):o.wp P a w K Q:=by
 subst al;unfold AT at ht
 split at ht
 ·rename_i e' he;simp only[Option.map_eq_some_iff,Prod.mk.injEq] at ht;obtain⟨i,hi,e1,hsz,az⟩:=ht;subst e1;unfold BV at hz;rw[hi] at hz;simp only[Option.bind_some] at hz;refine sF hd hN hf ?_;obtain⟨f1,f2,ae,af,b0,a0,a2⟩:=hs.open2;obtain⟨fq,an,ao,av,ap,aq⟩:=af;subst an;have a5:=b0;rw[List.nodup_append] at a5;obtain⟨a3,ar,ai⟩:=a5;obtain⟨xs,fps,a6,h7,h8,m⟩:=YL (base:=w0.heap.size) ae (λg p=>(a0 g (List.mem_append_left _ p)).1);obtain⟨v',w',aj,aa,c,_,hblk⟩:=run_append_own_at (P:=P) w w0.heap.size t o.type (Tid.id α) i z (Gd.n α) b he hi hz hsz az ak ab v l.length xs a6 ad ys.length cap yc av
   a7 ap (by simp only[maxLen];omega) ac hs.bel.size
  have aw:xs.length=l.length*Gd.n α:=a6.1;have b3:∀g∈f1,some g=v.ownBlock\/g∈fps.flatten:=λg p=>by
   rcases m with ⟨_,e,_⟩|⟨g0,e0,e⟩
   ·rw[e] at p;cases p
   ·rw[e] at p
    rcases List.mem_cons.1 p with h|h
    ·exact .inl (by rw[h,e0])
    ·exact .inr h
  have a1:∀g∈fps.flatten,g∈f1/\some g≠v.ownBlock:=λg p=>by
   rcases m with ⟨_,_,e⟩|⟨g0,e0,e⟩
   ·rw[e] at p;simp at p
   ·refine⟨by rw[e];simp[p],λh=>?_⟩;rw[e0] at h;simp only[Option.some.injEq] at h;rw[e,<-h] at a3;exact(List.nodup_cons.1 a3).1 p
  have a4:∀g∈fq.flatten,some g≠v.ownBlock:=λg p h=>by
   rcases m with ⟨e0,_⟩|⟨g0,e0,e⟩
   ·rw[e0] at h;cases h
   ·rw[e0] at h;simp only[Option.some.injEq] at h;exact ai g0 (by rw[e];simp) g (h▸p) h.symm
  refine⟨v',w',?_,λa' au=>k v' a' w' au ?_⟩
  ·unfold execOp;rw[ho];simp[resolve,invoke,builtin,hf.ev am,hf.ev hx,aj]
  ·have a8:w'.ownsRow w0.heap.size (Tid.id α) (Gd.n α) v' (l++ys).length (xs++yc):=by simpa using aa
   have ax:∀(i:Nat) (x:α) (f:List Nat),(l++ys)[i]?=some x->(fps++fq)[i]?=some f->Gd.ow w' (((xs++yc).drop (i*Gd.n α)).take (Gd.n α)) x f:=λi q f hq hf=>by
    have ah:=lS hq;simp only[List.length_append] at ah
    by_cases hi:i<l.length
    ·rw[List.getElem?_append_left hi] at hq;rw[List.getElem?_append_left (by omega)] at hf;have e:((xs++yc).drop (i*Gd.n α)).take (Gd.n α)=(xs.drop (i*Gd.n α)).take (Gd.n α):=by
      apply List.ext_getElem?
      intro t;rw[CF,CF]
      by_cases ht:t<Gd.n α
      ·rw[if_pos ht,if_pos ht];have:=Nat.mul_le_mul_right (Gd.n α) (show i+1<=l.length from hi);rw[Nat.add_mul,Nat.one_mul] at this;rw[List.getElem?_append_left (by omega)]
      ·rw[if_neg ht,if_neg ht]
     rw[e];refine Gd.ow_loc (h8 i q f hq hf) (λg p=>?_);have y:=a1 g (EG hf p);exact c.block g (a0 g (List.mem_append_left _ y.1)).2 y.2
    ·rw[List.getElem?_append_right (by omega)] at hq;rw[List.getElem?_append_right (by omega),h7] at hf;have e:((xs++yc).drop (i*Gd.n α)).take (Gd.n α)=(yc.drop ((i-l.length)*Gd.n α)).take (Gd.n α):=by
      have y:i*Gd.n α=xs.length+(i-l.length)*Gd.n α:=by rw[aw,<-Nat.add_mul];congr 1;omega
      rw[y,List.drop_append,List.drop_eq_nil_of_le (by omega),List.nil_append]
      congr 2
      omega
     rw[e];exact Gd.ow_loc (aq _ q f hq hf) (λg p=>c.block g (a0 g (List.mem_append_right _ (EG hf p))).2 (a4 g (EG hf p)))
   obtain⟨fp,ag,ay⟩:=fD (α:=α) (fps:=fps++fq) a8 (by simp[h7,ao]) ax
   rcases ay with ⟨_,_,e⟩|⟨g,e0,e,b4,b1⟩
   ·obtain⟨e1,e2⟩:=List.append_eq_nil_iff.1 e;rename_i efp;subst efp;exact a2 w' (ov [v'] (l++ys)) [] ⟨c.os,c.tape,c.output,c.size,λq hq a9=>c.block q hq (λe2=>by
     rcases m with ⟨e3,_⟩|⟨g0,e3,e4⟩
     ·rw[e3] at e2;cases e2
     ·rw[e3] at e2;simp only[Option.some.injEq] at e2;exact a9 (by rw[e4,e2];simp))⟩ ag (by simp) (λg p=>by cases p)
   ·refine a2 w' (ov [v'] (l++ys)) fp ⟨c.os,c.tape,c.output,c.size,λq hq a9=>c.block q hq (λe2=>?_)⟩ ag ?_ ?_
    ·rcases m with ⟨e3,_⟩|⟨g0,e3,e4⟩
     ·rw[e3] at e2;cases e2
     ·rw[e3] at e2;simp only[Option.some.injEq] at e2;exact a9 (by rw[e4,e2];simp)
    ·rw[e,List.nodup_cons];simp only[List.flatten_append];refine⟨λy=>?_,?_⟩
     ·rcases hblk with r|r
      ·rw[e0] at r
       rcases List.mem_append.1 y with y|y
       ·exact(a1 g y).2 r
       ·exact a4 g y r
      ·rw[e0] at r;simp only[Option.some.injEq] at r;have:g<w.heap.size:=by
        rcases List.mem_append.1 y with y|y
        ·exact(a0 g (List.mem_append_left _ (a1 g y).1)).2
        ·exact(a0 g (List.mem_append_right _ y)).2
       omega
     ·rw[List.nodup_append];refine⟨?_,ar,λa ha b r e2=>ai a (a1 a ha).1 b r e2⟩
      rcases m with ⟨_,_,e3⟩|⟨g0,_,e3⟩
      ·rw[e3];simp
      ·rw[e3] at a3;exact(List.nodup_cons.1 a3).2
    ·intro q hq;rw[e] at hq;simp only[List.flatten_append] at hq
     rcases List.mem_cons.1 hq with h|h
     ·subst h;refine⟨?_,b1⟩
      rcases hblk with r|r
      ·rw[e0] at r
       rcases m with ⟨e3,_⟩|⟨g0,e3,e4⟩
       ·rw[e3] at r;cases r
       ·rw[e3] at r;simp only[Option.some.injEq] at r;exact .inl (by rw[e4,r];simp)
      ·rw[e0] at r;simp only[Option.some.injEq] at r;exact .inr (by omega)
     ·have y:q∈f1++fq.flatten:=by
       rcases List.mem_append.1 h with h|h
       ·exact List.mem_append_left _ (a1 q h).1
       ·exact List.mem_append_right _ h
      exact⟨.inl y,Nat.lt_of_lt_of_le (a0 q y).2 c.size⟩
 ·cases ht
theorem A2B{α:Type} [Gd α] [Tid α]{t n b c:Nat}{s x:Operand}{v:Value}{l:List α}(e:AT P t=some (Tid.id α,n,b))
  (z:o.op= .call ⟨.builtin .append, #[s,x], #[t,t]⟩) (j:ev L s=some v) (hx:ev L x=some (.slice none 0 c)) (hd:o.dst=some d) (hN:Nat.blt d N=true)
  (k:D N w0 (ov [v] l::H) ((d,v)::L) K) (a:Act) (w:World) (m:Fits a N L) (u:St w0 (ov [v] l::H) w):o.wp P a w K Q:=by
 unfold AT at e
 split at e
 ·rename_i e' he;simp only[Option.map_eq_some_iff,Prod.mk.injEq] at e;obtain⟨i,hi,e1,hsz,a1⟩:=e;subst e1;obtain⟨f1,f,a0,p,r⟩:=u.set (k:=0) rfl;obtain⟨xs,fps,h,h7,h8,y⟩:=YL (base:=w0.heap.size) f (λg hg=>(p g hg).1);refine sF hd hN m ⟨v,w,?_,λa' q=>k a' w q u⟩;have:=run_append_nil (P:=P) w w0.heap.size t o.type (Tid.id α) i (Gd.n α) he hi v l.length xs h c;unfold execOp;rw[z];simp[resolve,invoke,builtin,m.ev j,m.ev hx,this]
 ·cases e
class Flt (α:Type) [Gd α] where
  flat:∀{w w':World} {cs:List Value} {x:α},Gd.rd w cs x->Gd.ow w' cs x []
theorem sG{α:Type} [Gd α] [Tid α]{w:World}{ad:Addr}{m cap:Nat}{ys:List α}(hn:0<Gd.n α)(h:Gd.rd w [.slice (some ad) m cap] ys):m=ys.length/\∃cs:List Value,cs.length=ys.length*Gd.n α/\(∀(j:Nat) u,cs[j]?=some u->w.cell? (ad.add j)=some u)/\∀(i:Nat) (x:α),ys[i]?=some x->Gd.rd w ((cs.drop (i*Gd.n α)).take (Gd.n α)) x:=by
 obtain⟨A,z,c,hm,p⟩:=h;simp only[List.cons.injEq,and_true,Value.slice.injEq] at c;obtain⟨e1,e2,e3⟩:=c;subst e1;refine⟨e2,(List.range (ys.length*Gd.n α)).map (λj=>(w.cell? (ad.add j)).getD undef),by simp,?_,?_⟩
 ·intro j u c;rw[List.getElem?_map] at c;simp only[Option.map_eq_some_iff] at c;obtain⟨q,a,e⟩:=c;have g:j<ys.length*Gd.n α:=by have:=lS a;simpa using this
  have ej:q=j:=by
   rw[List.getElem?_range g] at a;exact(Option.some.inj a).symm
  subst ej;have hi:q/Gd.n α<ys.length:=Nat.div_lt_of_lt_mul (by rw[Nat.mul_comm];exact g);obtain⟨y,hy⟩:=sL (l:=ys) hi;obtain⟨s,es,k,v,b⟩:=p _ y hy;simp only[Option.some.injEq] at k;subst k;have f:q%Gd.n α<es.length:=by rw[Gd.rd_len b];exact Nat.mod_lt _ hn
  have:=v (q%Gd.n α) _ (List.getElem?_eq_getElem f);rw[Nat.mul_comm,Nat.div_add_mod] at this;rw[this] at e;rw[this,<-e];rfl
 ·intro i x hx;obtain⟨s,es,k,v,b⟩:=p i x hx;simp only[Option.some.injEq] at k;subst k;have r:=lS hx;have e:(((List.range (ys.length*Gd.n α)).map (λj=>(w.cell? (ad.add j)).getD undef)).drop (i*Gd.n α)).take (Gd.n α)=es:=by
   apply List.ext_getElem?
   intro t;rw[CF]
   by_cases ht:t<Gd.n α
   ·have:=Nat.mul_le_mul_right (Gd.n α) (show i+1<=ys.length from r);rw[Nat.add_mul,Nat.one_mul] at this;rw[if_pos ht,List.getElem?_map,List.getElem?_range (by omega),List.getElem?_eq_getElem (by rw[Gd.rd_len b];exact ht)];have hq:=v t _ (List.getElem?_eq_getElem (by rw[Gd.rd_len b];exact ht));simp[hq]
   ·rw[if_neg ht,List.getElem?_eq_none (by rw[Gd.rd_len b];omega)]
  rw[e];exact b
theorem sH{α:Type} [Gd α] [Tid α] [Flt α]{t n b:Nat}{s x:Operand}{v u z:Value}{l ys:List α}(ht:AT P t=some (Tid.id α,n,b))(hz:BV P (Tid.id α)=some z)(a0:z.cells.size=n)(c:0<n)(a1:Gd.n α=n)
  (ho:o.op= .call ⟨.builtin .append, #[s,x], #[t,t]⟩) (g:ev L s=some v) (hx:ev L x=some u) (hd:o.dst=some d) (hN:Nat.blt d N=true)
  (hr:∀w,St w0 (ov [v] l::H) w->Gd.rd w [u] ys) (h:(l.length+ys.length)*b<=140737488355328) (m:l.length+ys.length<=9223372036854775807)
  (k:∀v',D N w0 (ov [v'] (l++ys)::H) ((d,v')::L) K):D N w0 (ov [v] l::H) L (λa w=>o.wp P a w K Q):=by
 intro a w r hs;have a4:=hr w hs;obtain⟨A,cap,hu,hm,a7⟩:=a4;simp only[List.cons.injEq,and_true] at hu;subst hu
 cases A with
 | none=>
  have a6:ys=[]:=by
   cases ys with
   |nil=>rfl
   | cons y ys=>
    obtain⟨ad,es,e,_⟩:=a7 0 y rfl
    cases e
  subst a6;have:=k v;rw[List.append_nil] at this;exact A2B ht ho g hx hd hN this a w r hs
 | some ad=>
  obtain⟨_,cs,c1,c2,c3⟩:=sG (by omega) (hr w hs);have p:∀u∈cs,u.oneCell'=true:=by
   intro q hq;obtain⟨j,hj⟩:=List.getElem?_of_mem hq;have a5:j<ys.length*Gd.n α:=by have:=lS hj;omega
   have a2:0<Gd.n α:=by omega
   have hi:j/Gd.n α<ys.length:=Nat.div_lt_of_lt_mul (by rw[Nat.mul_comm];exact a5);obtain⟨y,hy⟩:=sL (l:=ys) hi;refine Gd.rd_one (c3 _ y hy) q (List.mem_of_getElem? (i:=j%Gd.n α) ?_);rw[List.getElem?_take,if_pos (Nat.mod_lt _ a2),List.getElem?_drop,Nat.mul_comm,Nat.div_add_mod];exact hj
  have a3:St w0 (elc cs ys::ov [v] l::H) w:=hs.nul ⟨List.replicate ys.length [],by simp,by simp,c1,p,λi y f hy r=>by
   have ef:f=[]:=List.eq_of_mem_replicate (List.mem_of_getElem? r);subst ef;exact Flt.flat (c3 i y hy)⟩
  exact A2A ht hz a0 c a1 ho g hx hd hN h m k a w r (a3.perm (List.Perm.swap _ _ _)) c2
inductive Mo (α:Type) where
  |no:Mo α
  |so:α->Mo α
instance instMo{α:Type} [Gd α]:Gd (Mo α) where
 n:=Gd.n α
 st:=Gd.st α
 rd:=λw cs x=>cs.length=Gd.n α/\(∀u∈cs,u.oneCell'=true)/\∀y,x= .so y->Gd.rd w cs y
 ow:=λw cs x fp=>cs.length=Gd.n α/\(∀u∈cs,u.oneCell'=true)/\(x= .no->fp=[])/\∀y,x= .so y->Gd.ow w cs y fp
 rd_len:=λh=>h.1
 rd_one:=λh=>h.2.1
 rd_sub:=λe h=>⟨h.1,h.2.1,λy hy=>Gd.rd_sub e (h.2.2 y hy)⟩
 ow_loc:=λh hs=>⟨h.1,h.2.1,h.2.2.1,λy hy=>Gd.ow_loc (h.2.2.2 y hy) hs⟩
 ow_lt:=λ{w cs x fp} h g hg=>by
  cases x with
  |no=>rw[h.2.2.1 rfl] at hg;cases hg
  |so y=>exact Gd.ow_lt (h.2.2.2 y rfl) g hg
 ow_rd:=λh=>⟨h.1,h.2.1,λy hy=>Gd.ow_rd (h.2.2.2 y hy)⟩
instance{α:Type} [Tid α]:Tid (Mo α):=⟨Tid.id α⟩
def mvT{α:Type}(l:List α)(k:Nat):List (Mo α):=(l.take k).map (λ_=> .no)++(l.drop k).map .so
theorem A9t{α:Type}(l:List α)(k:Nat):(mvT l k).length=l.length:=by
 unfold mvT;simp only[List.length_append,List.length_map,List.length_take,List.length_drop];omega
theorem B2D{α:Type}(l:List α):mvT l 0=l.map .so:=by simp[mvT]
theorem B2S{α:Type}{l:List α}{k:Nat}{x:α}(h:l[k]?=some x):(mvT l k)[k]?=some (.so x):=by
 have a:=lS h;unfold mvT;rw[List.getElem?_append_right (by simp;omega)];simp only[List.length_map,List.length_take,Nat.min_eq_left (Nat.le_of_lt a),Nat.sub_self,List.getElem?_map,List.getElem?_drop,Nat.add_zero,h];rfl
theorem B2T{α:Type}{l:List α}{k:Nat}(h:k<l.length):(mvT l k).set k .no=mvT l (k+1):=by
 have a:l.drop k=l[k]::l.drop (k+1):=List.drop_eq_getElem_cons h;have b:l.take (k+1)=l.take k++ [l[k]]:=by
  rw[List.take_add_one,List.getElem?_eq_getElem h];rfl
 unfold mvT;rw[a,b,List.set_append_right _ _ (by simp;omega)];have e:k-((l.take k).map (λ_=>(Mo.no:Mo α))).length=0:=by simp;omega
 rw[e,List.map_cons,List.set_cons_zero,List.map_append,List.append_assoc];rfl
theorem B2U{α:Type} [Gd α] [Tid α]{v:Value}{l:List α}(k:D N w0 (ov [v] (mvT l 0)::H) L K):D N w0 (ov [v] l::H) L K:=by
 intro a w j hs;refine k a w j (St.conv hs ?_);intro fp hfp;refine⟨fp,?_,List.Perm.refl _⟩
 rcases hfp with ⟨h1,b,c⟩|⟨g,cap,cur,fps,h1,b,c,n,p,q,r,s⟩
 ·subst b;exact .inl ⟨h1,rfl,c⟩
 ·refine .inr ⟨g,cap,cur,fps,by rw[A9t];exact h1,b,by rw[A9t];exact c,n,p,q,by rw[A9t];exact r,λi x f m j=>?_⟩;rw[B2D,List.getElem?_map] at m;simp only[Option.map_eq_some_iff] at m;obtain⟨y,t,rfl⟩:=m;have h:=s i y f t j;refine⟨JX h,cells_one h,?_,?_⟩
  ·intro e;cases e
  ·intro z hz;cases hz;exact h
theorem B2V{α:Type} [Gd α] [Tid α]{v:Value}{l:List α}{i:Nat}{x:α}(b:l[i]?=some x)(k:∀es,D N w0 (ov es x::hl v (mvT l i) i es::H) L K):D N w0 (ov [v] (mvT l i)::H) L K:=by
 refine K8 (B2S b) λes=>?_
 intro a w hf hs;refine k es a w hf (St.conv hs ?_);intro fp hfp;exact⟨fp,hfp.2.2.2 x rfl,List.Perm.refl _⟩
theorem B0k{α:Type} [Gd α] [Tid α]{v:Value}{l:List α}{i:Nat}{es:List Value}(f:i<l.length)(h1:∀u∈es,u.oneCell'=true)(b:es.length=Gd.n α)(k:D N w0 (ov [v] (mvT l (i+1))::H) L K):D N w0 (hl v (mvT l i) i es::H) L K:=by
 intro a w hf hs;have g:D N w0 (ov es (Mo.no:Mo α)::hl v (mvT l i) i es::H) L K:=OM (x:=(Mo.no:Mo α)) (by
  have e:(mvT l i).set i (Mo.no:Mo α)=mvT l (i+1):=B2T f;rw[e];exact k)
 exact g a w hf (hs.nul (c:=ov es (Mo.no:Mo α)) ⟨b,h1,λ_=>rfl,λy h=>by cases h⟩)
theorem lhs{α:Type} [Gd α] [Tid α]{t n f m:Nat}{x:Operand}{v:Value}{l:List α}{j:Nat}{es fs:List Value}(k:Nat)(a:Gd.n α=n)(b:DV P t=some fs.length)(c:o.op= .load t x)(e:ev L x=some (.pointer (some ((GI v (j*n)).add f))))
  (hk:H[k]?=some (hl v l j es)) (g:(es.drop f).take m=fs):C2 P N w0 H L o (.agg fs.toArray):=hJ b c e (λ_ h=>Q1 (zG a h hk) g)
def pb{α:Type} [Gd α](g:Nat)(x:α):Chunk where
 ok w fp:=∃cs,(star (bx g cs) (ov cs x)).ok w fp
 loc:=λw w' fp ⟨cs,h⟩ hs=>⟨cs,(star (bx g cs) (ov cs x)).loc w w' fp h hs⟩
theorem A8O{α:Type} [Gd α]{g:Nat}{cs:List Value}{x:α}(k:D N w0 (pb g x::H) L K):D N w0 (bx g cs::ov cs x::H) L K:=λa w b c=>
 k a w b (St.conv c.star λfp h=>⟨fp,⟨cs,h⟩,List.Perm.refl _⟩)
theorem A8b{α:Type} [Gd α]{g:Nat}{x:α}(k:∀cs,D N w0 (bx g cs::ov cs x::H) L K):D N w0 (pb g x::H) L K:=by
 intro a w hf hs;obtain⟨fp,⟨cs,f⟩,h,e,b⟩:=hs.set (k:=0) rfl;exact k cs a w hf (b w (star (bx g cs) (ov cs x)) fp (Kb.of_ex (Ex.refl w)) f h (λq c=>⟨.inl c,(e q c).2⟩)).split
theorem B3p{fn:Func}(a:fn.results= #[])(tmps:Array Value)(w:World):(results fn tmps).run P w= .ok (.tuple #[]) w:=by
 rw[PX,a];simp[Sem.run_pure]
theorem Rn{fn:Func}{R:Ending->World->Prop}(b:fn.results= #[])(h:∀w,St w0 H w->R (.returned (.tuple #[])) w):D N w0 H L (bodyPost P fn R .normal):=
 λa w c e=>bodyPost_end (B3p b _ _) c.dfr (h w e)
instance instFltZ{wb:World}{α:Type} [Gd α]:Flt (Z wb α):=⟨λh=>⟨h,rfl⟩⟩
theorem A2C{α:Type} [Gd α] [Tid α]{w wb:World}{u:Value}{ys:List α}(c:E4 wb w)(h:Gd.rd wb [u] ys):Gd.rd (α:=List (Z wb α)) w [u] ys:=by
 obtain⟨A,cap,a,l,b⟩:=h;exact⟨A,cap,a,l,λi x g=>by
  obtain⟨ad,es,f,e,k⟩:=b i x g;exact⟨ad,es,f,λj u a=>c _ _ (e j u a),k⟩⟩
theorem sJ{α:Type} [Gd α] [Tid α]{p wb:World}{t n b:Nat}{s x:Operand}{v u z:Value}{l ys:List α}(i:Nat)(q:H[i]?=some (fz p wb))(g:E4 p w0)(r:Gd.rd wb [u] ys)(y:AT P t=some (Tid.id α,n,b))(hz:BV P (Tid.id α)=some z)(h:z.cells.size=n)(c:0<n)(j:Gd.n α=n)
  (ho:o.op= .call ⟨.builtin .append, #[s,x], #[t,t]⟩) (m:ev L s=some v) (hx:ev L x=some u) (hd:o.dst=some d) (hN:Nat.blt d N=true)
  (e:(l.length+ys.length)*b<=140737488355328) (f:l.length+ys.length<=9223372036854775807)
  (k:∀v',D N w0 (oz wb v' (l++ys)::H) ((d,v')::L) K):D N w0 (oz wb v l::H) L (λa w=>o.wp P a w K Q):=
 sH (α:=Z wb α) y hz h c j ho m hx hd hN (λw hs=>A2C (α:=α) (wb:=wb) (Q0 (k:=i+1) g hs (by rw[List.getElem?_cons_succ];exact q)) r) e f k
end
end Go.Sy
