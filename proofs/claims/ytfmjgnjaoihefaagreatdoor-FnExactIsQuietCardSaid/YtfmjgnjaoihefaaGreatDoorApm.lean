/-
  Lists of structs appended to lists: copied where their elements are flat, moved where they are owned; lists whose elements move out.
  Conditions: none.
-/
import Derived.Test.YtfmjgnjaoihefaaGreatDoorOwn2
namespace Go.Sy
open Go Go.RowKit
def elc{α:Type} [Gd α](cs:List Value)(ys:List α):Chunk where
 ok w fp:=∃fps:List (List Nat),fp=fps.flatten/\fps.length=ys.length/\cs.length=ys.length*Gd.n α/\(∀u∈cs,u.oneCell'=true)/\∀(i:Nat) (x:α) (f:List Nat),ys[i]?=some x->fps[i]?=some f->Gd.ow w ((cs.drop (i*Gd.n α)).take (Gd.n α)) x f
 loc:=λw w' fp ⟨fps,h1,h2,h3,h4,h5⟩ hs=>by
  subst h1;exact⟨fps,rfl,h2,h3,h4,λi x f hx hf=>Gd.ow_loc (h5 i x f hx hf) (λg hg=>hs g (EG hf hg))⟩
def blk(g:Nat)(ob:Obj):Chunk where
 ok w fp:=fp=[g]/\w.heap[g]?=some ob
 loc:=λw w' fp ⟨h1,h2⟩ hs=>by
  subst h1;exact⟨rfl,by rw[hs g (by simp)];exact h2⟩
section
variable {P:Program} {N:Nat} {w0:World} {H:List Chunk} {L:Fm} {ops:Array Oper} {Q:Exit->Act->World->Prop} {o:Oper} {rest:List Oper} {d:Nat} {K:Act->World->Prop}
theorem sF{a:Act}{w:World}(hd:o.dst=some d)(b:Nat.blt d N=true)(c:Fits a N L)
  (e:∃v w',(execOp a.eval o).run P w= .ok (.value v) w'/\∀a',Fits a' N ((d,v)::L)->K a' w'):o.wp P a w K Q:=by
 obtain⟨v,w',h1,f⟩:=e;unfold Oper.wp;rw[h1];simp only[Oper.upon_value];rw[hd];exact f _ (c.put b v)
theorem A2A{α:Type} [Gd α] [Tid α]{t n b:Nat}{s x:Operand}{v z:Value}{ad:Addr}{cap:Nat}{l ys:List α}{yc:List Value}(ht:AT P t=some (Tid.id α,n,b))(hz:BV P (Tid.id α)=some z)(a7:z.cells.size=n)(a4:0<n)(a8:Gd.n α=n)
  (ho:o.op= .call ⟨.builtin .append, #[s,x], #[t,t]⟩) (a9:ev L s=some v) (hx:ev L x=some (.slice (some ad) ys.length cap)) (hd:o.dst=some d) (hN:Nat.blt d N=true)
  (a5:(l.length+ys.length)*b<=140737488355328) (ag:l.length+ys.length<=9223372036854775807)
  (k:∀v',D N w0 (ov [v'] (l++ys)::H) ((d,v')::L) K) (a:Act) (w:World) (y:Fits a N L) (hs:St w0 (ov [v] l::elc yc ys::H) w) (a2:∀(j:Nat) u,yc[j]?=some u->w.cell? (ad.add j)=some u):o.wp P a w K Q:=by
 subst a8;unfold AT at ht
 split at ht
 ·rename_i e' he;simp only[Option.map_eq_some_iff,Prod.mk.injEq] at ht;obtain⟨i,hi,e1,hsz,hby⟩:=ht;subst e1;unfold BV at hz;rw[hi] at hz;simp only[Option.bind_some] at hz;refine sF hd hN y ?_;obtain⟨f1,f2,a6,hoky,hnd,p,close⟩:=hs.open2;obtain⟨fq,aa,ab,hyl,ac,ae⟩:=hoky;subst aa;have hnd':=hnd;rw[List.nodup_append] at hnd';obtain⟨a0,af,dis⟩:=hnd';obtain⟨xs,fps,hown,h7,h8,hrow⟩:=YL (base:=w0.heap.size) a6 (λg hg=>(p g (List.mem_append_left _ hg)).1);obtain⟨v',w',hrun,hown',hgrow,_,hblk⟩:=run_append_own_at (P:=P) w w0.heap.size t o.type (Tid.id α) i z (Gd.n α) b he hi hz hsz hby a7 a4 v l.length xs hown ad ys.length cap yc hyl
   a2 ac (by simp only[maxLen];omega) a5 hs.bel.size
  have hxl:xs.length=l.length*Gd.n α:=hown.1;have hfr:∀g∈f1,some g=v.ownBlock\/g∈fps.flatten:=λg hg=>by
   rcases hrow with ⟨_,e,_⟩|⟨g0,r,e⟩
   ·rw[e] at hg;cases hg
   ·rw[e] at hg
    rcases List.mem_cons.1 hg with h|h
    ·exact .inl (by rw[h,r])
    ·exact .inr h
  have hin:∀g∈fps.flatten,g∈f1/\some g≠v.ownBlock:=λg hg=>by
   rcases hrow with ⟨_,_,e⟩|⟨g0,r,e⟩
   ·rw[e] at hg;simp at hg
   ·refine⟨by rw[e];simp[hg],λh=>?_⟩;rw[r] at h;simp only[Option.some.injEq] at h;rw[e,<-h] at a0;exact(List.nodup_cons.1 a0).1 hg
  have a1:∀g∈fq.flatten,some g≠v.ownBlock:=λg hg h=>by
   rcases hrow with ⟨r,_⟩|⟨g0,r,e⟩
   ·rw[r] at h;cases h
   ·rw[r] at h;simp only[Option.some.injEq] at h;exact dis g0 (by rw[e];simp) g (h▸hg) h.symm
  refine⟨v',w',?_,λa' hf'=>k v' a' w' hf' ?_⟩
  ·unfold execOp;rw[ho];simp[resolve,invoke,builtin,y.ev a9,y.ev hx,hrun]
  ·have a3:w'.ownsRow w0.heap.size (Tid.id α) (Gd.n α) v' (l++ys).length (xs++yc):=by simpa using hown'
   have hcl:∀(i:Nat) (x:α) (f:List Nat),(l++ys)[i]?=some x->(fps++fq)[i]?=some f->Gd.ow w' (((xs++yc).drop (i*Gd.n α)).take (Gd.n α)) x f:=λi q f hq y=>by
    have hilt:=lS hq;simp only[List.length_append] at hilt
    by_cases hi:i<l.length
    ·rw[List.getElem?_append_left hi] at hq;rw[List.getElem?_append_left (by omega)] at y;have e:((xs++yc).drop (i*Gd.n α)).take (Gd.n α)=(xs.drop (i*Gd.n α)).take (Gd.n α):=by
      apply List.ext_getElem?
      intro t;rw[CF,CF]
      by_cases ht:t<Gd.n α
      ·rw[if_pos ht,if_pos ht];have:=Nat.mul_le_mul_right (Gd.n α) (show i+1<=l.length from hi);rw[Nat.add_mul,Nat.one_mul] at this;rw[List.getElem?_append_left (by omega)]
      ·rw[if_neg ht,if_neg ht]
     rw[e];refine Gd.ow_loc (h8 i q f hq y) (λg hg=>?_);have hm:=hin g (EG y hg);exact hgrow.block g (p g (List.mem_append_left _ hm.1)).2 hm.2
    ·rw[List.getElem?_append_right (by omega)] at hq;rw[List.getElem?_append_right (by omega),h7] at y;have e:((xs++yc).drop (i*Gd.n α)).take (Gd.n α)=(yc.drop ((i-l.length)*Gd.n α)).take (Gd.n α):=by
      have hm:i*Gd.n α=xs.length+(i-l.length)*Gd.n α:=by rw[hxl,<-Nat.add_mul];congr 1;omega
      rw[hm,List.drop_append,List.drop_eq_nil_of_le (by omega),List.nil_append]
      congr 2
      omega
     rw[e];exact Gd.ow_loc (ae _ q f hq y) (λg hg=>hgrow.block g (p g (List.mem_append_right _ (EG y hg))).2 (a1 g (EG y hg)))
   obtain⟨fp,hok,hfp⟩:=fD (α:=α) (fps:=fps++fq) a3 (by simp[h7,ab]) hcl
   rcases hfp with ⟨_,_,e⟩|⟨g,r,e,hbg,hgl⟩
   ·obtain⟨e1,m⟩:=List.append_eq_nil_iff.1 e;rename_i efp;subst efp;exact close w' (ov [v'] (l++ys)) [] ⟨hgrow.os,hgrow.tape,hgrow.output,hgrow.size,λq hq hnq=>hgrow.block q hq (λm=>by
     rcases hrow with ⟨c,_⟩|⟨g0,c,e4⟩
     ·rw[c] at m;cases m
     ·rw[c] at m;simp only[Option.some.injEq] at m;exact hnq (by rw[e4,m];simp))⟩ hok (by simp) (λg hg=>by cases hg)
   ·refine close w' (ov [v'] (l++ys)) fp ⟨hgrow.os,hgrow.tape,hgrow.output,hgrow.size,λq hq hnq=>hgrow.block q hq (λm=>?_)⟩ hok ?_ ?_
    ·rcases hrow with ⟨c,_⟩|⟨g0,c,e4⟩
     ·rw[c] at m;cases m
     ·rw[c] at m;simp only[Option.some.injEq] at m;exact hnq (by rw[e4,m];simp)
    ·rw[e,List.nodup_cons];simp only[List.flatten_append];refine⟨λhm=>?_,?_⟩
     ·rcases hblk with hb|hb
      ·rw[r] at hb
       rcases List.mem_append.1 hm with hm|hm
       ·exact(hin g hm).2 hb
       ·exact a1 g hm hb
      ·rw[r] at hb;simp only[Option.some.injEq] at hb;have:g<w.heap.size:=by
        rcases List.mem_append.1 hm with hm|hm
        ·exact(p g (List.mem_append_left _ (hin g hm).1)).2
        ·exact(p g (List.mem_append_right _ hm)).2
       omega
     ·rw[List.nodup_append];refine⟨?_,af,λa ha b hb m=>dis a (hin a ha).1 b hb m⟩
      rcases hrow with ⟨_,_,c⟩|⟨g0,_,c⟩
      ·rw[c];simp
      ·rw[c] at a0;exact(List.nodup_cons.1 a0).2
    ·intro q hq;rw[e] at hq;simp only[List.flatten_append] at hq
     rcases List.mem_cons.1 hq with h|h
     ·subst h;refine⟨?_,hgl⟩
      rcases hblk with hb|hb
      ·rw[r] at hb
       rcases hrow with ⟨c,_⟩|⟨g0,c,e4⟩
       ·rw[c] at hb;cases hb
       ·rw[c] at hb;simp only[Option.some.injEq] at hb;exact .inl (by rw[e4,hb];simp)
      ·rw[r] at hb;simp only[Option.some.injEq] at hb;exact .inr (by omega)
     ·have hm:q∈f1++fq.flatten:=by
       rcases List.mem_append.1 h with h|h
       ·exact List.mem_append_left _ (hin q h).1
       ·exact List.mem_append_right _ h
      exact⟨.inl hm,Nat.lt_of_lt_of_le (p q hm).2 hgrow.size⟩
 ·cases ht
theorem A2B{α:Type} [Gd α] [Tid α]{t n b c:Nat}{s x:Operand}{v:Value}{l:List α}(e:AT P t=some (Tid.id α,n,b))
  (q:o.op= .call ⟨.builtin .append, #[s,x], #[t,t]⟩) (h:ev L s=some v) (r:ev L x=some (.slice none 0 c)) (hd:o.dst=some d) (u:Nat.blt d N=true)
  (k:D N w0 (ov [v] l::H) ((d,v)::L) K) (a:Act) (w:World) (j:Fits a N L) (p:St w0 (ov [v] l::H) w):o.wp P a w K Q:=by
 unfold AT at e
 split at e
 ·rename_i e' he;simp only[Option.map_eq_some_iff,Prod.mk.injEq] at e;obtain⟨i,hi,y,hsz,hby⟩:=e;subst y;obtain⟨f1,f,z,m,close⟩:=p.set (k:=0) rfl;obtain⟨xs,fps,hown,h7,h8,hrow⟩:=YL (base:=w0.heap.size) f (λg hg=>(m g hg).1);refine sF hd u j ⟨v,w,?_,λa' hf'=>k a' w hf' p⟩;have:=run_append_nil (P:=P) w w0.heap.size t o.type (Tid.id α) i (Gd.n α) he hi v l.length xs hown c;unfold execOp;rw[q];simp[resolve,invoke,builtin,j.ev h,j.ev r,this]
 ·cases e
class Flt (α:Type) [Gd α] where
  flat:∀{w w':World} {cs:List Value} {x:α},Gd.rd w cs x->Gd.ow w' cs x []
theorem sG{α:Type} [Gd α] [Tid α]{w:World}{ad:Addr}{m cap:Nat}{ys:List α}(b:0<Gd.n α)(h:Gd.rd w [.slice (some ad) m cap] ys):m=ys.length/\∃cs:List Value,cs.length=ys.length*Gd.n α/\(∀(j:Nat) u,cs[j]?=some u->w.cell? (ad.add j)=some u)/\∀(i:Nat) (x:α),ys[i]?=some x->Gd.rd w ((cs.drop (i*Gd.n α)).take (Gd.n α)) x:=by
 obtain⟨A,cap',hu,hm,hel⟩:=h;simp only[List.cons.injEq,and_true,Value.slice.injEq] at hu;obtain⟨c,f,g⟩:=hu;subst c;refine⟨f,(List.range (ys.length*Gd.n α)).map (λj=>(w.cell? (ad.add j)).getD undef),by simp,?_,?_⟩
 ·intro j u hu;rw[List.getElem?_map] at hu;simp only[Option.map_eq_some_iff] at hu;obtain⟨j',hj',e⟩:=hu;have hjl:j<ys.length*Gd.n α:=by have:=lS hj';simpa using this
  have ej:j'=j:=by
   rw[List.getElem?_range hjl] at hj';exact(Option.some.inj hj').symm
  subst ej;have hi:j'/Gd.n α<ys.length:=Nat.div_lt_of_lt_mul (by rw[Nat.mul_comm];exact hjl);obtain⟨y,hy⟩:=sL (l:=ys) hi;obtain⟨ad',es,ea,hc,hr⟩:=hel _ y hy;simp only[Option.some.injEq] at ea;subst ea;have a:j'%Gd.n α<es.length:=by rw[Gd.rd_len hr];exact Nat.mod_lt _ b
  have:=hc (j'%Gd.n α) _ (List.getElem?_eq_getElem a);rw[Nat.mul_comm,Nat.div_add_mod] at this;rw[this] at e;rw[this,<-e];rfl
 ·intro i x hx;obtain⟨ad',es,ea,hc,hr⟩:=hel i x hx;simp only[Option.some.injEq] at ea;subst ea;have hlt:=lS hx;have e:(((List.range (ys.length*Gd.n α)).map (λj=>(w.cell? (ad.add j)).getD undef)).drop (i*Gd.n α)).take (Gd.n α)=es:=by
   apply List.ext_getElem?
   intro t;rw[CF]
   by_cases ht:t<Gd.n α
   ·have:=Nat.mul_le_mul_right (Gd.n α) (show i+1<=ys.length from hlt);rw[Nat.add_mul,Nat.one_mul] at this;rw[if_pos ht,List.getElem?_map,List.getElem?_range (by omega),List.getElem?_eq_getElem (by rw[Gd.rd_len hr];exact ht)];have hq:=hc t _ (List.getElem?_eq_getElem (by rw[Gd.rd_len hr];exact ht));simp[hq]
   ·rw[if_neg ht,List.getElem?_eq_none (by rw[Gd.rd_len hr];omega)]
  rw[e];exact hr
theorem sH{α:Type} [Gd α] [Tid α] [Flt α]{t n b:Nat}{s x:Operand}{v u z:Value}{l ys:List α}(ht:AT P t=some (Tid.id α,n,b))(hz:BV P (Tid.id α)=some z)(p:z.cells.size=n)(c:0<n)(r:Gd.n α=n)
  (ho:o.op= .call ⟨.builtin .append, #[s,x], #[t,t]⟩) (g:ev L s=some v) (hx:ev L x=some u) (hd:o.dst=some d) (hN:Nat.blt d N=true)
  (hr:∀w,St w0 (ov [v] l::H) w->Gd.rd w [u] ys) (h:(l.length+ys.length)*b<=140737488355328) (m:l.length+ys.length<=9223372036854775807)
  (k:∀v',D N w0 (ov [v'] (l++ys)::H) ((d,v')::L) K):D N w0 (ov [v] l::H) L (λa w=>o.wp P a w K Q):=by
 intro a w hf hs;have hrd:=hr w hs;obtain⟨A,cap,hu,hm,hel⟩:=hrd;simp only[List.cons.injEq,and_true] at hu;subst hu
 cases A with
 | none=>
  have hys:ys=[]:=by
   cases ys with
   |nil=>rfl
   | cons y ys=>
    obtain⟨ad,es,e,_⟩:=hel 0 y rfl
    cases e
  subst hys;have:=k v;rw[List.append_nil] at this;exact A2B ht ho g hx hd hN this a w hf hs
 | some ad=>
  obtain⟨_,cs,c1,c2,c3⟩:=sG (by omega) (hr w hs);have hone:∀u∈cs,u.oneCell'=true:=by
   intro q hq;obtain⟨j,hj⟩:=List.getElem?_of_mem hq;have hjl:j<ys.length*Gd.n α:=by have:=lS hj;omega
   have a0:0<Gd.n α:=by omega
   have hi:j/Gd.n α<ys.length:=Nat.div_lt_of_lt_mul (by rw[Nat.mul_comm];exact hjl);obtain⟨y,hy⟩:=sL (l:=ys) hi;refine Gd.rd_one (c3 _ y hy) q (List.mem_of_getElem? (i:=j%Gd.n α) ?_);rw[List.getElem?_take,if_pos (Nat.mod_lt _ a0),List.getElem?_drop,Nat.mul_comm,Nat.div_add_mod];exact hj
  have a1:St w0 (elc cs ys::ov [v] l::H) w:=hs.nul ⟨List.replicate ys.length [],by simp,by simp,c1,hone,λi y f hy hf=>by
   have ef:f=[]:=List.eq_of_mem_replicate (List.mem_of_getElem? hf);subst ef;exact Flt.flat (c3 i y hy)⟩
  exact A2A ht hz p c r ho g hx hd hN h m k a w hf (a1.perm (List.Perm.swap _ _ _)) c2
inductive Mo (α:Type) where
  |no:Mo α
  |so:α->Mo α
instance instMo{α:Type} [Gd α]:Gd (Mo α) where
 n:=Gd.n α
 st:=Gd.st α
 rd:=λw cs x=>cs.length=Gd.n α/\(∀u∈cs,u.oneCell'=true)/\∀y,x= .so y->Gd.rd w cs y
 ow:=λw cs x fp=>cs.length=Gd.n α/\(∀u∈cs,u.oneCell'=true)/\(x= .no->fp=[])/\∀y,x= .so y->Gd.ow w cs y fp
 rd_len:=λh=>h.1
 rd_one:=λh=>h.2.1
 rd_sub:=λe h=>⟨h.1,h.2.1,λy hy=>Gd.rd_sub e (h.2.2 y hy)⟩
 ow_loc:=λh hs=>⟨h.1,h.2.1,h.2.2.1,λy hy=>Gd.ow_loc (h.2.2.2 y hy) hs⟩
 ow_lt:=λ{w cs x fp} h g hg=>by
  cases x with
  |no=>rw[h.2.2.1 rfl] at hg;cases hg
  |so y=>exact Gd.ow_lt (h.2.2.2 y rfl) g hg
 ow_rd:=λh=>⟨h.1,h.2.1,λy hy=>Gd.ow_rd (h.2.2.2 y hy)⟩
instance{α:Type} [Tid α]:Tid (Mo α):=⟨Tid.id α⟩
instance instFltZ{wb:World}{α:Type} [Gd α]:Flt (Z wb α):=⟨λh=>⟨h,rfl⟩⟩
theorem A2C{α:Type} [Gd α] [Tid α]{w wb:World}{u:Value}{ys:List α}(a:E4 wb w)(h:Gd.rd wb [u] ys):Gd.rd (α:=List (Z wb α)) w [u] ys:=by
 obtain⟨A,cap,hu,hm,hel⟩:=h;exact⟨A,cap,hu,hm,λi x hi=>by
  obtain⟨ad,es,ha,hj,hr⟩:=hel i x hi;exact⟨ad,es,ha,λj u hu=>a _ _ (hj j u hu),hr⟩⟩
theorem sJ{α:Type} [Gd α] [Tid α]{p wb:World}{t n b:Nat}{s x:Operand}{v u z:Value}{l ys:List α}(i:Nat)(q:H[i]?=some (fz p wb))(g:E4 p w0)(r:Gd.rd wb [u] ys)(y:AT P t=some (Tid.id α,n,b))(hz:BV P (Tid.id α)=some z)(h:z.cells.size=n)(c:0<n)(j:Gd.n α=n)
  (ho:o.op= .call ⟨.builtin .append, #[s,x], #[t,t]⟩) (m:ev L s=some v) (hx:ev L x=some u) (hd:o.dst=some d) (hN:Nat.blt d N=true)
  (e:(l.length+ys.length)*b<=140737488355328) (f:l.length+ys.length<=9223372036854775807)
  (k:∀v',D N w0 (oz wb v' (l++ys)::H) ((d,v')::L) K):D N w0 (oz wb v l::H) L (λa w=>o.wp P a w K Q):=
 sH (α:=Z wb α) y hz h c j ho m hx hd hN (λw hs=>A2C (α:=α) (wb:=wb) (Q0 (k:=i+1) g hs (by rw[List.getElem?_cons_succ];exact q)) r) e f k
theorem czt{α:Type} [Gd α]{f:Nat}{C4k:List Operand}{vs:List Value}{c:Array TypeId}{x:α}{b wb:World}(hb:AA P f=true)
  (e:o.op= .call ⟨.value (.func f),C4k.toArray,c⟩) (g:evs L C4k=some vs) (hd:o.dst=some d) (h:Nat.blt d N=true) (i:E4 b w0)
  (hc:∀w,E4 wb w->Ex w0 w->Calls P f vs.toArray w (nO wb w x))
  (k:∀cs wb',E4 wb wb'->Gd.rd wb' cs x->D N w0 (fz b wb'::H) ((d,Gd.vl α cs)::L) K):D N w0 (fz b wb::H) L (λa w=>o.wp P a w K Q):=
 K7 (σ:=List Value × World) (val:=λs=>Gd.vl α s.1) (H':=λs=>fz b s.2::H) (J:=λs=>E4 wb s.2/\Gd.rd s.2 s.1 x) hb e g hd h
  (λw hs=>(hc w (Q0 (k:=0) i hs rfl) hs.bel).mono λ_ _ ⟨cs,wb',he,hzk,hr⟩=>⟨(cs,wb'),he,⟨hzk.2.1,hr⟩,aP hs hzk⟩) (λs hj=>k s.1 s.2 hj.1 hj.2)
end
end Go.Sy
