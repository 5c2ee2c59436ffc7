/-
  Owned lists of whatever elements: made, an element replaced, an element appended, a list appended.
  Conditions: none.
-/
import Derived.Test.YtmjmglkogcomaaaGreatDoorSym
import Derived.Great.BuildSlice
import Derived.Test.YtmjmglkogcomaaaGreatDoorData
import Derived.Laws.Tables
import Derived.Laws.Small
import Derived.Laws.Shifts
import Derived.Laws.Entries
import Derived.Laws.Strings
namespace Go.Sy
open Go Go.RowKit
theorem CF(cur:List Value)(i n t:Nat):((cur.drop (i*n)).take n)[t]?=if t<n then cur[i*n+t]? else none:=by
 rw[List.getElem?_take,List.getElem?_drop]
theorem O6(cur a:List Value)(p q:Nat)(hp:p+a.length<=cur.length):
  (cur.take p++a++cur.drop (p+a.length))[q]?=if q<p then cur[q]? else if q<p+a.length then a[q-p]? else cur[q]?:=by
 have e:min p cur.length=p:=by omega
 by_cases h1:q<p
 ·rw[if_pos h1,List.append_assoc,List.getElem?_append_left (by simp;omega),List.getElem?_take,if_pos h1]
 ·rw[if_neg h1]
  by_cases g:q<p+a.length
  ·rw[if_pos g,List.append_assoc,List.getElem?_append_right (by simp;omega),List.getElem?_append_left (by simp[e];omega)];simp[e]
  ·rw[if_neg g,List.getElem?_append_right (by simp[e];omega),List.getElem?_drop];simp only[List.length_append,List.length_take,e]
   congr 1
   omega
theorem KR{i j n t:Nat}(a:i≠j)(e:t<n):i*n+t<j*n\/j*n+n<=i*n+t:=by
 rcases Nat.lt_or_gt_of_ne a with h|h
 ·left
  have:=Nat.mul_le_mul_right n (show i+1<=j from h);rw[Nat.add_mul,Nat.one_mul] at this;omega
 ·right
  have:=Nat.mul_le_mul_right n (show j+1<=i from h);rw[Nat.add_mul,Nat.one_mul] at this;omega
theorem JI{l:List (List Nat)}{j:Nat}{f:List Nat}{g:Nat}(h:g∈(l.set j f).flatten):g∈l.flatten\/g∈f:=by
 obtain⟨q,e,a⟩:=List.mem_flatten.1 h
 rcases List.mem_or_eq_of_mem_set e with h|h
 ·exact .inl (List.mem_flatten.2 ⟨q,h,a⟩)
 ·exact .inr (h▸a)
theorem KS:∀{l:List (List Nat)} {j:Nat} {f:List Nat},l.flatten.Nodup->f.Nodup->(∀g∈f,g∉l.flatten)->(l.set j f).flatten.Nodup
 | [],_,_,_,_,_=>by simp
 | x::l,0,f,h,hf,hd=>by
  simp only[List.set_cons_zero,List.flatten_cons] at*;rw[List.nodup_append] at*;refine⟨hf,h.2.1,λa k b i e=>?_⟩;subst e;exact hd a k (List.mem_append_right _ i)
 | x::l,j+1,f,h,hf,hd=>by
  simp only[List.set_cons_succ,List.flatten_cons] at*;rw[List.nodup_append] at*;refine⟨h.1,KS h.2.1 hf (λg q r=>hd g q (List.mem_append_right _ r)),λa k b i e=>?_⟩;subst e
  rcases JI i with i|i
  ·exact h.2.2 a k a i rfl
  ·exact hd a i (List.mem_append_left _ k)
theorem JX{α:Type} [Gd α]{w:World}{cs:List Value}{x:α}{f:List Nat}(h:Gd.ow w cs x f):cs.length=Gd.n α:=Gd.rd_len (Gd.ow_rd h)
theorem cells_one{α:Type} [Gd α]{w:World}{cs:List Value}{x:α}{f:List Nat}(h:Gd.ow w cs x f):∀u∈cs,u.oneCell'=true:=Gd.rd_one (Gd.ow_rd h)
section
variable {P:Program} {N:Nat} {w0:World} {H:List Chunk} {L:Fm} {ops:Array Oper} {Q:Exit->Act->World->Prop} {o:Oper} {rest:List Oper} {d:Nat} {K:Act->World->Prop}
theorem St.open2{w:World}{c1 c2:Chunk}(h:St w0 (c1::c2::H) w):
  ∃l s,c1.ok w l/\c2.ok w s/\(l++s).Nodup/\(∀g∈l++s,w0.heap.size<=g/\g<w.heap.size)/\
   ∀(w':World) (c:Chunk) (fp:List Nat),Kb l w w'->c.ok w' fp->fp.Nodup->(∀g∈fp,(g∈l++s\/w.heap.size<=g)/\g<w'.heap.size)->St w0 (c::H) w':=by
 obtain⟨F,⟨l,F',e1,h1,s,F2,e2,h2,hH⟩,hn,k⟩:=h.own;subst e2;subst e1;rw[<-List.append_assoc] at hn k;have u:=hn;rw[List.nodup_append] at u;obtain⟨a0,n3,v⟩:=u;refine⟨l,s,h1,h2,a0,λg i=>k g (List.mem_append_left _ i),λw' c fp r a2 a1 q=>?_⟩;have z:∀g∈F2,g∉l:=λg i j=>v g (List.mem_append_left _ j) g i rfl
 refine⟨⟨r.os.trans h.bel.os,r.tape.trans h.bel.tape,r.output.trans h.bel.output,Nat.le_trans h.bel.size r.size,λg i=>?_⟩,
  fp++F2,⟨fp,F2,rfl,a2,hH.loc (λg i=>r.block g (k g (List.mem_append_right _ i)).2 (z g i))⟩,?_,?_⟩
 ·rw[r.block g (Nat.lt_of_lt_of_le i h.bel.size) (λj=>by have:=(k g (by simp[j])).1;omega)];exact h.bel.block g i
 ·rw[List.nodup_append];refine⟨a1,n3,λa ha b t e=>?_⟩;subst e
  rcases(q a ha).1 with j|j
  ·exact v a j a t rfl
  ·have:=(k a (List.mem_append_right _ t)).2;omega
 ·intro g i
  rcases List.mem_append.1 i with i|i
  ·refine⟨?_,(q g i).2⟩
   rcases(q g i).1 with j|j
   ·exact(k g (List.mem_append_left _ j)).1
   ·exact Nat.le_trans h.bel.size j
  ·exact⟨(k g (List.mem_append_right _ i)).1,Nat.lt_of_lt_of_le (k g (List.mem_append_right _ i)).2 r.size⟩
theorem St.two{w w':World}{c1 c2 c:Chunk}(h:St w0 (c1::c2::H) w)
  (hc:∀e i,c1.ok w e->c2.ok w i->(e++i).Nodup->(∀g∈e++i,g<w.heap.size)->∃fp,Kb e w w'/\c.ok w' fp/\fp.Nodup/\∀g∈fp,(g∈e++i\/w.heap.size<=g)/\g<w'.heap.size):St w0 (c::H) w':=by
 obtain⟨e,i,h1,q,u,s,a⟩:=h.open2;obtain⟨fp,r,k,j,l⟩:=hc e i h1 q u (λg t=>(s g t).2);exact a w' c fp r k j l
def star(c1 c2:Chunk):Chunk where
 ok w fp:=∃f1 f2,fp=f1++f2/\c1.ok w f1/\c2.ok w f2
 loc:=λw w' fp ⟨f1,f2,e,h1,h2⟩ hs=>by
  subst e;exact⟨f1,f2,rfl,c1.loc _ _ _ h1 (λg hg=>hs g (by simp[hg])),c2.loc _ _ _ h2 (λg hg=>hs g (by simp[hg]))⟩
theorem St.star{w:World}{c1 c2:Chunk}(h:St w0 (c1::c2::H) w):St w0 (Sy.star c1 c2::H) w:=
 h.two (λi a h1 j l k=>⟨i++a,Kb.of_ex (Ex.refl w),⟨i,a,rfl,h1,j⟩,l,λg e=>⟨.inl e,k g e⟩⟩)
theorem St.split{w:World}{c1 c2:Chunk}(h:St w0 (Sy.star c1 c2::H) w):St w0 (c1::c2::H) w:=by
 obtain⟨F,⟨fp,i,e,⟨j,a,k,h1,l⟩,hH⟩,s,q⟩:=h.own;subst k;subst e;exact⟨h.bel,j++(a++i),⟨j,a++i,rfl,h1,a,i,rfl,l,hH⟩,by rw[<-List.append_assoc];exact s,λg r=>q g (by rw[List.append_assoc];exact r)⟩
theorem St.conv{w:World}{c c':Chunk}(h:St w0 (c::H) w)(hc:∀fp,c.ok w fp->∃a,c'.ok w a/\List.Perm fp a):St w0 (c'::H) w:=by
 obtain⟨fp,l,s,r,j⟩:=h.set (k:=0) rfl;obtain⟨a,e,i⟩:=hc fp l;exact j w c' a (Kb.of_ex (Ex.refl w)) e (i.nodup_iff.1 s) (λg q=>⟨.inl (i.mem_iff.2 q),(r g (i.mem_iff.2 q)).2⟩)
theorem BB{α β:Type} [Gd α] [Gd β]{c:Chunk}{c1 c2:List Value}{x:α}{y:β}(e:c=ov (c1++c2) (x,y))(hl:c1.length=Gd.n α)(k:D N w0 (ov c1 x::ov c2 y::H) L K):D N w0 (c::H) L K:=by
 subst e;intro a w hf h;refine k a w hf (St.split (St.conv (c':=star (ov c1 x) (ov c2 y)) h ?_));rintro fp ⟨u,d2,j,i,l,q,h1,r⟩;have g:u.length=c1.length:=by rw[hl];exact JX h1
 obtain⟨s,t⟩:=List.append_inj l.symm g;subst s;subst t;subst q;exact⟨j++i,⟨j,i,rfl,h1,r⟩,List.Perm.refl _⟩
theorem O7(y:Int)(k:D N w0 (ov [.int .i64 y] y::H) L K):D N w0 H L K:=fB y k
theorem AX(y:Bool)(k:D N w0 (ov [.bool y] y::H) L K):D N w0 H L K:=fB y k
theorem OI(y:ByteArray)(k:D N w0 (ov [.string y] y::H) L K):D N w0 H L K:=fB y k
theorem BR:∀u∈([]:List Value),u.oneCell'=true:=λ_ h=>by cases h
theorem AB{v:Value}{l:List Value}(h:v.oneCell'=true)(hl:∀u∈l,u.oneCell'=true):∀u∈v::l,u.oneCell'=true:=λu a=>by
 rcases List.mem_cons.1 a with e|a
 ·rw[e];exact h
 ·exact hl u a
theorem A2{α:Type} [Gd α] [Tid α]{w:World}{v:Value}{l:List α}(h:Gd.rd w [v] l):v.oneCell'=true:=Gd.rd_one h v (by simp)
theorem CZ{α:Type} [Gd α] [Tid α]{w:World}{k:Nat}{v:Value}{l:List α}(a:St w0 H w)(hk:H[k]?=some (ov [v] l)):v.oneCell'=true:=A2 (rO a hk)
theorem AO{v:Value}(h:v.oneCell'=true):v.cells= #[v]:=by cases v<;>first|rfl|cases h
theorem CL{α:Type} [Gd α] [Tid α]{w:World}{es:List Value}{l:List α}(h:Gd.rd w es l):∃u,es=[u]:=by
 obtain⟨a,cap,e,_⟩:=h;exact⟨_,e⟩
theorem fC{a b:Bool}(h:(!(a==b))=false):a=b:=by cases a<;>cases b<;>simp_all
theorem hM{b:Bool}(h:(!b)=true):b=false:=by simpa using h
theorem hP{b:Bool}(h:(!b)=false):b=true:=by simpa using h
theorem B9b(z:Int):IntKind.i64.wrap z=wr z:=by rw[IntKind.wrap_i64];unfold wr;omega
theorem B7G{t e:TypeId}{x y:Operand}{m n:Int}(g:o.op= .binOp .add t x y e)(h:ev L x=some (.int .i64 m))(i:ev L y=some (.int .i64 n)):C2 P N w0 H L o (.int .i64 (wr (m+n))):=by
 intro a w hf _;unfold execOp;rw[g];simp only[hf.ev h,hf.ev i];simp[eqGuard,binOp,Op.intArith,B9b]
theorem A3{α:Type} [Gd α]{cs:List Value}{x a:α}(i:Nat)(hk:H[i]?=some (ov cs x))(e:x=a)(k:D N w0 (H.set i (ov cs a)) L K):D N w0 H L K:=by
 subst e;have:H.set i (ov cs x)=H:=by
  apply List.ext_getElem?
  intro j;rw[List.getElem?_set]
  split
  ·rename_i h;subst h
   split
   ·rw[hk]
   ·rename_i h;rw[List.getElem?_eq_none (by omega)]
  ·rfl
 rw[this] at k;exact k
theorem JP{t j off q i:Nat}{x:Operand}{p:Addr}(a:AL P t j=some off)(e:o.op= .fieldAddr t x j)(g:ev L x=some (.pointer (some (p.add i))))(k:i+off=q):C2 P N w0 H L o (.pointer (some (p.add q))):=by
 have h:=B2 (N:=N) (w0:=w0) (H:=H) a e g;rw[add_add,k] at h;exact h
theorem soG{α:Type} [Gd α] [Tid α]{t n:Nat}{x y:Operand}{v yv:Value}{l:List α}{j:Nat}{z:α}{yc:List Value}(ag:Gd.n α=n)(hz:CS P t=some n)(ho:o.op= .store t x y)(hx:ev L x=some (.pointer (some (GI v (j*n)))))(hy:ev L y=some yv)(ah:yv.cells=yc.toArray)(hd:o.dst=none)
  (hj:j<l.length) (r:D N w0 (ov [v] (l.set j z)::H) L K):D N w0 (ov [v] l::ov yc z::H) L (λa w=>o.wp P a w K Q):=by
 subst ag;refine TF hd (λa w hf hs=>?_);have hv:∃g cap,v= .slice (some ⟨g,0,none⟩) l.length cap:=by
  obtain⟨fp,ap,_⟩:=hs.at (k:=0) rfl
  rcases ap with ⟨_,h2,_⟩|⟨g,cap,cur,fps,h1,_⟩
  ·rw[h2] at hj;simp at hj
  ·simp only[List.cons.injEq,and_true] at h1;exact⟨g,cap,h1⟩
 obtain⟨g,cap,rfl⟩:=hv;obtain⟨_,a5,_⟩:=hs.at (k:=1) rfl;have ab:yc.length=Gd.n α:=JX a5;have ai:∀u∈yc,u.oneCell'=true:=cells_one a5;obtain⟨aw,a6,_⟩:=hs.at (k:=0) rfl
 rcases a6 with ⟨h1,_⟩|⟨g',av,cur,fps,h1,h2,h3,h4,h5,h6,h7,h8⟩
 ·simp at h1
 ·simp only[List.cons.injEq,and_true,Value.slice.injEq,Option.some.injEq,Addr.mk.injEq] at h1;obtain⟨e1,_,e2⟩:=h1;subst e1;subst e2;have af:cur.toList.toArray=cur:=by simp
  have s:j*Gd.n α+yc.length<=cur.toList.length:=by
   rw[ab];simp only[Array.length_toList,h5];have:=Nat.mul_le_mul_right (Gd.n α) (show j+1<=cap by omega);rw[Nat.add_mul,Nat.one_mul] at this;exact this
  obtain⟨w',hr,ao,kb,hsz⟩:=IT (P:=P) (g:=g) (i:=j*Gd.n α) (cur:=cur.toList) (vs:=yc) (t:=Tid.id α) (w:=w) (by rw[af];exact h2) s ai;refine⟨w',?_,λa' am=>r a' w' am (hs.two ?_)⟩
  ·have ad:GI (.slice (some ⟨g,0,none⟩) l.length cap) (j*Gd.n α)=⟨g,j*Gd.n α,none⟩:=by simp[GI,E9]
   have ac:=hf.ev hx;rw[ad] at ac;unfold CS at hz;simp only[Option.map_eq_some_iff] at hz;obtain⟨ti,hi,a7⟩:=hz;unfold execOp;rw[ho];simp[Instr.storeAt,Instr.sureAddr,storeVar,ac,hf.ev hy,sizeOf,typeInfo,hi,a7,ah,ab,hr]
  ·intro f1 f2 aj ak hnd hlt
   rcases aj with ⟨e,_⟩|⟨g1,ar,au,a2,k1,k2,k3,k4,k5,k6,k7,k8⟩
   ·simp at e
   ·simp only[List.cons.injEq,and_true,Value.slice.injEq,Option.some.injEq,Addr.mk.injEq] at k1;obtain⟨e1,_,e2⟩:=k1;subst e1;subst e2;rw[h2] at k2;simp only[Option.some.injEq,Obj.cells.injEq,and_true] at k2;subst k2;subst k6;have a4:=hnd;rw[List.nodup_append] at a4;obtain⟨a8,al,ae⟩:=a4;have a9:g∉a2.flatten:=(List.nodup_cons.1 a8).1;have aa:g∉f2:=λhm=>ae g (by simp) g hm rfl
    have a0:∀q,q<w.heap.size->q≠g->w'.heap[q]?=w.heap[q]?:=λq h aq=>kb.block q h (by simpa using aq)
    refine⟨g::(a2.set j f2).flatten,⟨kb.os,kb.tape,kb.output,kb.size,λq h an=>a0 q h (λe=>an (by simp[e]))⟩,?_,?_,?_⟩
    ·refine .inr ⟨g,cap,(cur.toList.take (j*Gd.n α)++yc++cur.toList.drop (j*Gd.n α+yc.length)).toArray,a2.set j f2,by simp,ao,by simpa using k3,k4,?_,rfl,by simpa using k7,?_⟩
     ·simp only[List.size_toArray,List.length_append,List.length_take,List.length_drop];simp only[Array.length_toList] at s⊢;omega
     ·intro i q f h hfi;have a1:∀i',((cur.toList.take (j*Gd.n α)++yc++cur.toList.drop (j*Gd.n α+yc.length)).toArray.toList.drop (i'*Gd.n α)).take (Gd.n α)=if i'=j then yc else(cur.toList.drop (i'*Gd.n α)).take (Gd.n α):=λi'=>by
       apply List.ext_getElem?
       intro t;simp only;rw[CF]
       by_cases ht:t<Gd.n α
       ·rw[if_pos ht,O6 _ _ _ _ s]
        by_cases hij:i'=j
        ·subst hij;rw[if_neg (by omega),if_pos (by omega),if_pos rfl]
         congr 1
         omega
        ·rw[if_neg hij,CF,if_pos ht]
         rcases KR hij ht with hb|hb
         ·rw[if_pos hb]
         ·rw[if_neg (by omega),if_neg (by omega)]
       ·rw[if_neg ht]
        by_cases hij:i'=j
        ·rw[if_pos hij,List.getElem?_eq_none (by omega)]
        ·rw[if_neg hij,CF,if_neg ht]
      rw[a1 i]
      by_cases hij:i=j
      ·subst hij;rw[if_pos rfl];rw[List.getElem?_set_self (by omega)] at h;rw[List.getElem?_set_self (by rw[k7];omega)] at hfi;simp only[Option.some.injEq] at h hfi;subst h;subst hfi;exact Gd.ow_loc ak (λg' a3=>a0 g' (hlt g' (by simp[a3])) (λe=>aa (e▸a3)))
      ·rw[if_neg hij];rw[List.getElem?_set_ne (λe=>hij e.symm)] at h hfi;have:=k8 i q f h hfi;refine Gd.ow_loc this (λg' a3=>a0 g' (hlt g' ?_) (λe=>a9 (e▸EG hfi a3)));simp[EG hfi a3]
    ·rw[List.nodup_cons];refine⟨λhm=>?_,KS (List.nodup_cons.1 a8).2 al (λq h hm=>ae q (by simp[hm]) q h rfl)⟩
     rcases JI hm with hm|hm
     ·exact a9 hm
     ·exact aa hm
    ·intro q h
     rcases List.mem_cons.1 h with e|h
     ·subst e;exact⟨.inl (by simp),by rw[hsz];exact hlt q (by simp)⟩
     ·rcases JI h with h|h
      ·exact⟨.inl (by simp[h]),by rw[hsz];exact hlt q (by simp[h])⟩
      ·exact⟨.inl (by simp[h]),by rw[hsz];exact hlt q (by simp[h])⟩
theorem PV(n:Nat):(List.replicate n ([]:List Nat)).flatten=[]:=by
 rw[List.flatten_eq_nil_iff];intro l hl;exact List.eq_of_mem_replicate hl
theorem oA{t e n b:Nat}{x:Operand}{v:Value}{cs:List Value}{z:Value}(h:AT P t=some (e,n,b))(k:BV P e=some z)(a0:z.cells.size=n)(r:0<n)(a1:n<=16777216)(ho:o.op= .buildSlice t 1 #[(0,x)])(hx:ev L x=some v)
  (hc:v.cells=cs.toArray) (hl:cs.length=n) {a:Act} (hf:Fits a N L) (w:World):(execOp a.eval o).run P w= .ok (.value (.slice (some ⟨w.heap.size,0,none⟩) 1 1)) (w.alloc (.cells cs.toArray e)):=by
 unfold AT at h
 split at h
 ·rename_i e' he;simp only[Option.map_eq_some_iff,Prod.mk.injEq] at h;obtain⟨i,hi,rfl,hsz,a2⟩:=h;unfold BV at k;rw[hi] at k;simp only[Option.bind_some] at k;have g:Instr.fill (λi'=>some (i'*i.size,i.size)) ((Array.range (1*i.size)).map (z.cells[·%z.cells.size]!)) [(0,v)]=some cs.toArray:=by
   have a3:v.cells.size=i.size:=by rw[hc,hsz];simpa using hl
   simp only[Instr.fill,hc];rw[if_neg (by simp[hl,hsz])]
   congr 1
   apply Array.ext_getElem?
   intro q;rw[<-Array.foldl_toList];have key:∀(l:List Value) (p:Nat) (acc:Array Value),((l.zipIdx p).foldl (λ(c:Array Value) x=>c.setIfInBounds (0*i.size+x.2) x.1) acc)[q]?=if p<=q/\q<p+l.length/\q<acc.size then l[q-p]? else acc[q]?:=by
    intro l
    induction l with
    | nil=>
     intro p acc;simp only[List.zipIdx_nil,List.foldl_nil,List.length_nil];rw[if_neg (by omega)]
    | cons u l ih=>
     intro p acc;simp only[List.zipIdx_cons,List.foldl_cons];rw[ih];simp only[Nat.zero_mul,Nat.zero_add,Array.size_setIfInBounds,List.length_cons]
     by_cases h1:p+1<=q/\q<p+1+l.length/\q<acc.size
     ·rw[if_pos h1,if_pos (by omega)];have:q-p=(q-(p+1))+1:=by omega
      rw[this,List.getElem?_cons_succ]
     ·rw[if_neg h1]
      by_cases s:p=q
      ·subst s
       by_cases h3:p<acc.size
       ·rw[if_pos (by omega)];simp[h3]
       ·rw[if_neg (by omega)];rw[Array.getElem?_eq_none (by simp;omega),Array.getElem?_eq_none (by omega)]
      ·rw[Array.getElem?_setIfInBounds_ne s,if_neg (by omega)]
   have j:cs.toArray.zipIdx.toList=cs.zipIdx 0:=by simp
   rw[j,key];simp only[Nat.zero_le,Nat.zero_add,true_and,Nat.sub_zero,Array.size_map,Array.size_range,Nat.one_mul,hsz,hl]
   by_cases hq:q<n
   ·rw[if_pos ⟨hq,hq⟩];simp
   ·rw[if_neg (by omega),Array.getElem?_eq_none (by simp;omega),Array.getElem?_eq_none (by simp;omega)]
  have hb:=run_buildSlice (P:=P) w t e' 1 #[(0,v)] cs.toArray i z he hi k (by rw[hsz];omega) (by rw[hsz];omega) g;unfold execOp;rw[ho];simp only[List.map_toArray,List.map_cons,List.map_nil,hf.ev hx];rw[Sem.run_bind,hb];rfl
 ·cases h
theorem FF{t e n b:Nat}{x:Operand}{v:Value}{cs:List Value}{z:Value}(q:AT P t=some (e,n,b))(r:BV P e=some z)(i:z.cells.size=n)(h:0<n)(j:n<=16777216)(s:o.op= .buildSlice t 1 #[(0,x)])(u:ev L x=some v)(hd:o.dst=some d)(hN:Nat.blt d N=true)
  (hc:v.cells=cs.toArray) (hl:cs.length=n) (k:∀g,D N w0 (bx g cs::H) ((d, .slice (some ⟨g,0,none⟩) 1 1)::L) K):D N w0 H L (λa w=>o.wp P a w K Q):=
 KQ hd hN (λ_ w hf hs=>⟨.slice (some ⟨w.heap.size,0,none⟩) 1 1,w.alloc (.cells cs.toArray e),oA q r i h j s u hc hl hf w,λa' l=>k _ a' _ l (YH hs rfl)⟩)
theorem B9u{α:Type} [Fl α] [Tid α]{t b:Nat}{x:Operand}{y:α}{z:Value}(ht:AT P t=some (Tid.id α,1,b))(hz:BV P (Tid.id α)=some z)(j:z.cells.size=1)(ho:o.op= .buildSlice t 1 #[(0,x)])(hx:ev L x=some (Fl.enc y))(hd:o.dst=some d)(hN:Nat.blt d N=true)
  (k:∀v,D N w0 (ov [v] [y]::H) ((d,v)::L) K):D N w0 H L (λa w=>o.wp P a w K Q):=by
 have h:(Fl.enc y).oneCell'=true:=Fl.one y;have e:(Fl.enc y).cells=[Fl.enc y].toArray:=by
  generalize Fl.enc y=u at h
  cases u<;>first|rfl|cases h
 refine KQ hd hN (λ_ w hf hs=>⟨.slice (some ⟨w.heap.size,0,none⟩) 1 1,w.alloc (.cells [Fl.enc y].toArray (Tid.id α)),oA ht hz j (by omega) (by omega) ho hx e rfl hf w,λa' q=>k _ a' _ q
  (hs.push (fp:=[w.heap.size]) (Ex.alloc w _) (c:=ov [.slice (some ⟨w.heap.size,0,none⟩) 1 1] [y]) ?_ (by simp) (λg s=>by simp only[List.mem_singleton] at s;subst s;simp))⟩)
 exact YK (l:=[y]) (cap:=1) (heap_alloc_new w _) (by simp) (by simp[maxLen]) (by simp) (λi u r=>by
  cases i with
  |zero=>simp only[List.getElem?_cons_zero,Option.some.injEq] at r;subst r;rfl
  |succ i=>simp at r)
theorem zF{α:Type} [Gd α] [Tid α]{t n b:Nat}{x:Operand}{v z:Value}{y:α}{j:List Value}(ht:AT P t=some (Tid.id α,n,b))(hz:BV P (Tid.id α)=some z)(a0:z.cells.size=n)(q:0<n)(a1:n<=16777216)(a2:Gd.n α=n)
  (ho:o.op= .buildSlice t 1 #[(0,x)]) (hx:ev L x=some v) (hd:o.dst=some d) (hN:Nat.blt d N=true) (hc:v.cells=j.toArray)
  (k:∀v',D N w0 (ov [v'] [y]::H) ((d,v')::L) K):D N w0 (ov j y::H) L (λa w=>o.wp P a w K Q):=by
 subst a2;refine KQ hd hN (λa w hf hs=>?_);obtain⟨fp,r,a5,hb,a4⟩:=hs.set (k:=0) rfl;have l:j.length=Gd.n α:=JX r;refine⟨.slice (some ⟨w.heap.size,0,none⟩) 1 1,w.alloc (.cells j.toArray (Tid.id α)),oA ht hz a0 q a1 ho hx hc l hf w,λa' a3=>k _ a' _ a3 (a4 _ (ov [.slice (some ⟨w.heap.size,0,none⟩) 1 1] [y]) (w.heap.size::fp) (Kb.of_ex (Ex.alloc w _)) ?_ ?_ ?_)⟩
 ·refine .inr ⟨w.heap.size,1,j.toArray,[fp],rfl,heap_alloc_new w _,by simp,by simp[maxLen],by simp[l],by simp,rfl,λi u f hu s=>?_⟩
  cases i with
  | zero=>
   simp only[List.getElem?_cons_zero,Option.some.injEq] at hu s;subst hu;subst s;have e:(j.toArray.toList.drop (0*Gd.n α)).take (Gd.n α)=j:=by
    rw[Nat.zero_mul];simp only[List.drop_zero];rw[<-l];exact List.take_length
   rw[e];exact Gd.ow_loc r (λg hg=>(Ex.alloc w _).block g (hb g hg).2)
  |succ i=>simp at hu
 ·rw[List.nodup_cons];exact⟨λh=>by have:=(hb _ h).2;omega,a5⟩
 ·intro g hg;have hsz:(w.alloc (.cells j.toArray (Tid.id α))).heap.size=w.heap.size+1:=by simp
  rcases List.mem_cons.1 hg with e|h
  ·subst e;exact⟨.inr (Nat.le_refl _),by omega⟩
  ·exact⟨.inl h,by have:=(hb g h).2;omega⟩
theorem FL{α:Type} [Gd α] [Tid α]{t n b:Nat}(e:AT P t=some (Tid.id α,n,b))(l:o.op= .buildSlice t 0 #[])(hd:o.dst=some d)(q:Nat.blt d N=true)
  (k:∀v,D N w0 (ov [v] ([]:List α)::H) ((d,v)::L) K):D N w0 H L (λa w=>o.wp P a w K Q):=by
 unfold AT at e
 split at e
 ·rename_i e' he;simp only[Option.map_eq_some_iff,Prod.mk.injEq] at e;obtain⟨i,hi,r,hsz,s⟩:=e;subst r;refine KQ hd q (λa w hf z=>⟨.slice (some ⟨w.heap.size,0,none⟩) 0 0,w.alloc (.cells #[] (Tid.id α)),?_,λu h=>k _ u _ h
   (z.push (fp:=[w.heap.size]) (Ex.alloc w _) (c:=ov [.slice (some ⟨w.heap.size,0,none⟩) 0 0] ([]:List α)) ?_ (by simp) (λg j=>by simp only[List.mem_singleton] at j;subst j;simp))⟩)
  ·unfold execOp;rw[l];simp[Instr.buildSlice,run_underlying he,sizeOf,typeInfo,hi,Instr.fill,newRow,Array.range_zero']
  ·exact .inr ⟨w.heap.size,0, #[],[],rfl,heap_alloc_new w _,by simp,by simp[maxLen],by simp,by simp,rfl,λi x f hx=>by simp at hx⟩
 ·cases e
theorem YL{α:Type} [Gd α] [Tid α]{w:World}{v:Value}{l:List α}{fp:List Nat}{base:Nat}(h:Gd.ow w [v] l fp)(hb:∀g∈fp,base<=g):
  ∃xs fps,w.ownsRow base (Tid.id α) (Gd.n α) v l.length xs/\fps.length=l.length/\(∀(i:Nat) (x:α) (f:List Nat),l[i]?=some x->fps[i]?=some f->Gd.ow w ((xs.drop (i*Gd.n α)).take (Gd.n α)) x f)/\
   ((v.ownBlock=none/\fp=[]/\fps=[])\/∃g,v.ownBlock=some g/\fp=g::fps.flatten):=by
 rcases h with ⟨h1,k,a⟩|⟨g,cap,cur,fps,h1,k,a,s,r,u,z,h8⟩
 ·simp only[List.cons.injEq,and_true] at h1;subst h1;subst k;subst a;exact⟨[],[],⟨by simp, .inl ⟨rfl,rfl⟩⟩,rfl,λi x f j=>by simp at j, .inl ⟨rfl,rfl,rfl⟩⟩
 ·simp only[List.cons.injEq,and_true] at h1;subst h1;subst u;have a0:l.length*Gd.n α<=cur.toList.length:=by
   simp only[Array.length_toList,r];exact Nat.mul_le_mul_right _ a
  refine⟨cur.toList.take (l.length*Gd.n α),fps,⟨by rw[List.length_take];omega, .inr ⟨g,cap,cur,rfl,hb g (by simp),k,a,s,r,rfl⟩⟩,z,λi x f j hf=>?_, .inr ⟨g,rfl,rfl⟩⟩;have q:=lS j;have e:((cur.toList.take (l.length*Gd.n α)).drop (i*Gd.n α)).take (Gd.n α)=(cur.toList.drop (i*Gd.n α)).take (Gd.n α):=by
   apply List.ext_getElem?
   intro t;rw[CF,CF]
   by_cases ht:t<Gd.n α
   ·rw[if_pos ht,if_pos ht,List.getElem?_take];have:=Nat.mul_le_mul_right (Gd.n α) (show i+1<=l.length from q);rw[Nat.add_mul,Nat.one_mul] at this;rw[if_pos (by omega)]
   ·rw[if_neg ht,if_neg ht]
  rw[e];exact h8 i x f j hf
theorem fD{α:Type} [Gd α] [Tid α]{w:World}{v:Value}{l:List α}{xs:List Value}{fps:List (List Nat)}{base:Nat}(h:w.ownsRow base (Tid.id α) (Gd.n α) v l.length xs)(q:fps.length=l.length)
  (r:∀(i:Nat) (x:α) (f:List Nat),l[i]?=some x->fps[i]?=some f->Gd.ow w ((xs.drop (i*Gd.n α)).take (Gd.n α)) x f):
  ∃fp,Gd.ow w [v] l fp/\((v.ownBlock=none/\fp=[]/\l=[])\/∃g,v.ownBlock=some g/\fp=g::fps.flatten/\base<=g/\g<w.heap.size):=by
 obtain⟨hl,h⟩:=h
 rcases h with ⟨rfl,h0⟩|⟨g,cap,cur,rfl,hg,j,s,u,z,h6⟩
 ·have:l=[]:=List.eq_nil_of_length_eq_zero h0;subst this;exact⟨[], .inl ⟨rfl,rfl,rfl⟩, .inl ⟨rfl,rfl,rfl⟩⟩
 ·refine⟨g::fps.flatten, .inr ⟨g,cap,cur,fps,rfl,j,s,u,z,rfl,q,λi x f k hf=>?_⟩, .inr ⟨g,rfl,rfl,hg,lt_of_heap j⟩⟩;have:=r i x f k hf;have a:=lS k;have e:((cur.toList.take (l.length*Gd.n α)).drop (i*Gd.n α)).take (Gd.n α)=(cur.toList.drop (i*Gd.n α)).take (Gd.n α):=by
   apply List.ext_getElem?
   intro t;rw[CF,CF]
   by_cases ht:t<Gd.n α
   ·rw[if_pos ht,if_pos ht,List.getElem?_take];have:=Nat.mul_le_mul_right (Gd.n α) (show i+1<=l.length from a);rw[Nat.add_mul,Nat.one_mul] at this;rw[if_pos (by omega)]
   ·rw[if_neg ht,if_neg ht]
  rw[<-e,h6];exact this
theorem GZ{α:Type} [Gd α] [Tid α]{t n b g2 c:Nat}{s x:Operand}{v z:Value}{l:List α}{y:α}{yc:List Value}(ht:AT P t=some (Tid.id α,n,b))(hz:BV P (Tid.id α)=some z)(ai:z.cells.size=n)(ab:0<n)(aj:Gd.n α=n)
  (ho:o.op= .call ⟨.builtin .append, #[s,x], #[t,t]⟩) (ak:ev L s=some v) (hx:ev L x=some (.slice (some ⟨g2,0,none⟩) 1 c)) (hd:o.dst=some d) (hN:Nat.blt d N=true)
  (ac:(l.length+1)*b<=140737488355328) (b0:l.length+1<=9223372036854775807)
  (k:∀v',D N w0 (ov [v'] (l++ [y])::H) ((d,v')::L) K):D N w0 (ov [v] l::ov yc y::bx g2 yc::H) L (λa w=>o.wp P a w K Q):=by
 subst aj;unfold AT at ht
 split at ht
 ·rename_i e' he;simp only[Option.map_eq_some_iff,Prod.mk.injEq] at ht;obtain⟨i,hi,e1,hsz,ax⟩:=ht;subst e1;unfold BV at hz;rw[hi] at hz;simp only[Option.bind_some] at hz;refine KQ hd hN (λa w hf hs=>?_);have al:St w0 (ov [v] l::ov yc y::H) w:=(hs.perm (O3 _ 2)).tail;obtain⟨f1,f2,ad,a3,az,a1,aa⟩:=al.open2;have a6:=az;rw[List.nodup_append] at a6;obtain⟨a4,am,ag⟩:=a6;have ae:=JX a3;have an:=cells_one a3;obtain⟨xs,fps,a7,h7,h8,a0⟩:=YL (base:=w0.heap.size) ad (λg hg=>(a1 g (List.mem_append_left _ hg)).1);obtain⟨v',w',ah,a9,r,_,hblk⟩:=run_append_own_at (P:=P) w w0.heap.size t o.type (Tid.id α) i z (Gd.n α) b he hi hz hsz ax ai ab v l.length xs a7 ⟨g2,0,none⟩ 1 c yc (by rw[ae];omega)
   (λj u hu=>by rw[E9,Nat.zero_add];exact JU (k:=2) rfl hu w hs) an (by simp only[maxLen];omega) ac hs.bel.size
  have ap:xs.length=l.length*Gd.n α:=a7.1;have b1:∀g∈f1,some g=v.ownBlock\/g∈fps.flatten:=λg hg=>by
   rcases a0 with ⟨_,e,_⟩|⟨g0,e0,e⟩
   ·rw[e] at hg;cases hg
   ·rw[e] at hg
    rcases List.mem_cons.1 hg with h|h
    ·exact .inl (by rw[h,e0])
    ·exact .inr h
  have a2:∀g∈fps.flatten,g∈f1/\some g≠v.ownBlock:=λg hg=>by
   rcases a0 with ⟨_,_,e⟩|⟨g0,e0,e⟩
   ·rw[e] at hg;simp at hg
   ·refine⟨by rw[e];simp[hg],λh=>?_⟩;rw[e0] at h;simp only[Option.some.injEq] at h;rw[e,<-h] at a4;exact(List.nodup_cons.1 a4).1 hg
  have a5:∀g∈f2,some g≠v.ownBlock:=λg hg h=>by
   rcases a0 with ⟨e0,_⟩|⟨g0,e0,e⟩
   ·rw[e0] at h;cases h
   ·rw[e0] at h;simp only[Option.some.injEq] at h;exact ag g0 (by rw[e];simp) g (h▸hg) h.symm
  refine⟨v',w',?_,λa' ao=>k v' a' w' ao ?_⟩
  ·unfold execOp;rw[ho];simp[resolve,invoke,builtin,hf.ev ak,hf.ev hx,ah]
  ·have a8:w'.ownsRow w0.heap.size (Tid.id α) (Gd.n α) v' (l++ [y]).length (xs++yc):=by simpa using a9
   have au:∀(i:Nat) (x:α) (f:List Nat),(l++ [y])[i]?=some x->(fps++ [f2])[i]?=some f->Gd.ow w' (((xs++yc).drop (i*Gd.n α)).take (Gd.n α)) x f:=λi q f hq hf=>by
    have af:=lS hq;simp only[List.length_append,List.length_singleton] at af
    by_cases hi:i<l.length
    ·rw[List.getElem?_append_left hi] at hq;rw[List.getElem?_append_left (by omega)] at hf;have e:((xs++yc).drop (i*Gd.n α)).take (Gd.n α)=(xs.drop (i*Gd.n α)).take (Gd.n α):=by
      apply List.ext_getElem?
      intro t;rw[CF,CF]
      by_cases ht:t<Gd.n α
      ·rw[if_pos ht,if_pos ht];have:=Nat.mul_le_mul_right (Gd.n α) (show i+1<=l.length from hi);rw[Nat.add_mul,Nat.one_mul] at this;rw[List.getElem?_append_left (by omega)]
      ·rw[if_neg ht,if_neg ht]
     rw[e];refine Gd.ow_loc (h8 i q f hq hf) (λg hg=>?_);have hm:=a2 g (EG hf hg);exact r.block g (a1 g (List.mem_append_left _ hm.1)).2 hm.2
    ·have aq:i=l.length:=by omega
     subst aq;rw[List.getElem?_append_right (by omega)] at hq;rw[List.getElem?_append_right (by omega),h7] at hf;simp only[Nat.sub_self,List.getElem?_cons_zero,Option.some.injEq] at hq hf;subst hq;subst hf;have e:((xs++yc).drop (l.length*Gd.n α)).take (Gd.n α)=yc:=by
      rw[<-ap,List.drop_left,<-ae,List.take_length]
     rw[e];exact Gd.ow_loc a3 (λg hg=>r.block g (a1 g (List.mem_append_right _ hg)).2 (a5 g hg))
   obtain⟨fp,aw,av⟩:=fD (α:=α) (fps:=fps++ [f2]) a8 (by simp[h7]) au
   rcases av with ⟨_,_,e⟩|⟨g,e0,e,b2,ay⟩
   ·simp at e
   ·refine aa w' (ov [v'] (l++ [y])) fp ⟨r.os,r.tape,r.output,r.size,λq hq ar=>r.block q hq (λe2=>?_)⟩ aw ?_ ?_
    ·rcases a0 with ⟨e3,_⟩|⟨g0,e3,e4⟩
     ·rw[e3] at e2;cases e2
     ·rw[e3] at e2;simp only[Option.some.injEq] at e2;exact ar (by rw[e4,e2];simp)
    ·rw[e,List.nodup_cons];simp only[List.flatten_append,List.flatten_cons,List.flatten_nil,List.append_nil];refine⟨λhm=>?_,?_⟩
     ·rcases hblk with hb|hb
      ·rw[e0] at hb
       rcases List.mem_append.1 hm with hm|hm
       ·exact(a2 g hm).2 hb
       ·exact a5 g hm hb
      ·rw[e0] at hb;simp only[Option.some.injEq] at hb;have:g<w.heap.size:=by
        rcases List.mem_append.1 hm with hm|hm
        ·exact(a1 g (List.mem_append_left _ (a2 g hm).1)).2
        ·exact(a1 g (List.mem_append_right _ hm)).2
       omega
     ·rw[List.nodup_append];refine⟨?_,am,λa ha b hb e2=>ag a (a2 a ha).1 b hb e2⟩
      rcases a0 with ⟨_,_,e3⟩|⟨g0,_,e3⟩
      ·rw[e3];simp
      ·rw[e3] at a4;exact(List.nodup_cons.1 a4).2
    ·intro q hq;rw[e] at hq;simp only[List.flatten_append,List.flatten_cons,List.flatten_nil,List.append_nil] at hq
     rcases List.mem_cons.1 hq with h|h
     ·subst h;refine⟨?_,ay⟩
      rcases hblk with hb|hb
      ·rw[e0] at hb
       rcases a0 with ⟨e3,_⟩|⟨g0,e3,e4⟩
       ·rw[e3] at hb;cases hb
       ·rw[e3] at hb;simp only[Option.some.injEq] at hb;exact .inl (by rw[e4,hb];simp)
      ·rw[e0] at hb;simp only[Option.some.injEq] at hb;exact .inr (by omega)
     ·have hm:q∈f1++f2:=by
       rcases List.mem_append.1 h with h|h
       ·exact List.mem_append_left _ (a2 q h).1
       ·exact List.mem_append_right _ h
      exact⟨.inl hm,Nat.lt_of_lt_of_le (a1 q hm).2 r.size⟩
 ·cases ht
end
end Go.Sy
namespace Go.Sy
open Go Go.RowKit
def evp(L:Fm):List (Nat × Operand)->Option (List (Nat × Value))
 | []=>some []
 | (i,x)::ps=>match ev L x,evp L ps with
  |some v,some vs=>some ((i,v)::vs)
  |_,_=>none
theorem WW{a:Act}{N:Nat}{L:Fm}(h:Fits a N L):∀{ps:List (Nat × Operand)} {vs:List (Nat × Value)},evp L ps=some vs->ps.map (λx=>(x.1,a.eval x.2))=vs
 | [],vs,he=>by simpa [evp] using he
 | (i,x)::ps,vs,he=>by
  simp only[evp] at he
  split at he
  ·rename_i v ws h1 e;simp only[Option.some.injEq] at he;subst he;simp[h.ev h1,WW h e]
  ·cases he
section
variable {P:Program} {N:Nat} {w0:World} {H:List Chunk} {L:Fm} {ops:Array Oper} {Q:Exit->Act->World->Prop} {o:Oper} {rest:List Oper} {d:Nat} {K:Act->World->Prop}
theorem run_append_nil(w:World)(base:Nat)(t ty e:TypeId)(i:TypeInfo)(size:Nat)(j:P.underlying t=some (.slice e))(k:P.info? e=some i)
  (v:Value) (n:Nat) (xs:List Value) (a:w.ownsRow base e size v n xs) (c:Nat):(Builtin.append_ #[t,t] ty #[v, .slice none 0 c]).run P w= .ok v w:=by
 rcases a.2 with ⟨rfl,rfl⟩|⟨g,cap,cur,rfl,_,_,h,_⟩
 ·simp[Builtin.append_,run_underlying j,sizeOf,typeInfo,k,Builtin.lenOf,Builtin.firstCells]
 ·simp[Builtin.append_,run_underlying j,sizeOf,typeInfo,k,Builtin.lenOf,Builtin.firstCells,h,storeCells]
theorem PW{α:Type} [Fl α] [Tid α]{t b:Nat}{s x:Operand}{v u z:Value}{l ys:List α}(ht:AT P t=some (Tid.id α,1,b))(hz:BV P (Tid.id α)=some z)(ai:z.cells.size=1)
  (ho:o.op= .call ⟨.builtin .append, #[s,x], #[t,t]⟩) (a7:ev L s=some v) (hx:ev L x=some u) (hd:o.dst=some d) (hN:Nat.blt d N=true)
  (hr:∀w,St w0 (ov [v] l::H) w->Gd.rd w [u] ys) (a8:(l.length+ys.length)*b<=140737488355328) (au:l.length+ys.length<=9223372036854775807)
  (k:∀v',D N w0 (ov [v'] (l++ys)::H) ((d,v')::L) K):D N w0 (ov [v] l::H) L (λa w=>o.wp P a w K Q):=by
 unfold AT at ht
 split at ht
 ·rename_i e' he;simp only[Option.map_eq_some_iff,Prod.mk.injEq] at ht;obtain⟨i,hi,e1,hsz,al⟩:=ht;subst e1;unfold BV at hz;rw[hi] at hz;simp only[Option.bind_some] at hz;refine KQ hd hN (λa w hf hs=>?_);obtain⟨A,cap,hu,hm,ab⟩:=hr w hs;simp only[List.cons.injEq,and_true] at hu;subst hu;obtain⟨f1,a9,av,aj,a2⟩:=hs.set (k:=0) rfl;obtain⟨xs,fps,a0,h7,h8,a4⟩:=YL (base:=w0.heap.size) a9 (λg hg=>(aj g hg).1)
  cases A with
  | none=>
   have am:ys=[]:=by
    cases ys with
    |nil=>rfl
    | cons y ys=>
     obtain⟨ad,es,e,_⟩:=ab 0 y rfl
     cases e
   subst am;refine⟨v,w,?_,λa' a1=>?_⟩
   ·have:=run_append_nil (P:=P) w w0.heap.size t o.type (Tid.id α) i 1 he hi v l.length xs a0 cap;unfold execOp;rw[ho];simp only[List.length_nil] at hx;simp[resolve,invoke,builtin,hf.ev a7,hf.ev hx,this]
   ·have hk:=k v;rw[List.append_nil] at hk;exact hk a' w a1 hs
  | some ad=>
   have a3:∀(j:Nat) u,(ys.map Fl.enc)[j]?=some u->w.cell? (ad.add j)=some u:=by
    intro j u hu;rw[List.getElem?_map] at hu;simp only[Option.map_eq_some_iff] at hu;obtain⟨y,hy,rfl⟩:=hu;obtain⟨ax,es,e,hc,ap⟩:=ab j y hy;simp only[Option.some.injEq] at e;subst e;have ag:es=[Fl.enc y]:=ap;subst ag;have:=hc 0 (Fl.enc y) rfl;have e1:j*Gd.n α+0=j:=by show j*1+0=j;omega
    rw[e1] at this;exact this
   obtain⟨v',w',ac,a6,h,_,hblk⟩:=run_append_own_at (P:=P) w w0.heap.size t o.type (Tid.id α) i z 1 b he hi hz hsz al ai (by omega) v l.length xs a0 ad ys.length cap (ys.map Fl.enc) (by simp)
    a3 (λu hu=>by
     obtain⟨y,_,rfl⟩:=List.mem_map.1 hu;exact Fl.one y) (by simp only[maxLen];omega) a8 hs.bel.size
   have an:xs.length=l.length:=by
    have:=a0.1;have h1:Gd.n α=1:=rfl;rw[h1] at this;omega
   refine⟨v',w',?_,λa' a1=>k v' a' w' a1 ?_⟩
   ·unfold execOp;rw[ho];simp[resolve,invoke,builtin,hf.ev a7,hf.ev hx,ac]
   ·have a5:w'.ownsRow w0.heap.size (Tid.id α) (Gd.n α) v' (l++ys).length (xs++ys.map Fl.enc):=by
     show w'.ownsRow w0.heap.size (Tid.id α) 1 v' (l++ys).length (xs++ys.map Fl.enc);simpa using a6
    have ao:∀(i:Nat) (x:α) (f:List Nat),(l++ys)[i]?=some x->(List.replicate (l++ys).length ([]:List Nat))[i]?=some f->Gd.ow w' (((xs++ys.map Fl.enc).drop (i*Gd.n α)).take (Gd.n α)) x f:=λi q f hq hf=>by
     have ef:f=[]:=List.eq_of_mem_replicate (List.mem_of_getElem? hf);subst ef;refine⟨?_,rfl⟩;show((xs++ys.map Fl.enc).drop (i*1)).take 1=[Fl.enc q];rw[Nat.mul_one];have r:(xs++ys.map Fl.enc)[i]?=some (Fl.enc q):=by
      by_cases hil:i<l.length
      ·rw[List.getElem?_append_left (by omega)];rw[List.getElem?_append_left hil] at hq;obtain⟨f',a1⟩:=sL (l:=fps) (i:=i) (by omega);obtain⟨e1,_⟩:=h8 i q f' hq a1;have aq:(xs.drop (i*1)).take 1=[Fl.enc q]:=e1;have:((xs.drop (i*1)).take 1)[0]?=some (Fl.enc q):=by rw[aq];rfl
       rw[List.getElem?_take,if_pos (by omega),List.getElem?_drop] at this;simpa using this
      ·rw[List.getElem?_append_right (by omega),an,List.getElem?_map];rw[List.getElem?_append_right (by omega)] at hq;rw[hq];rfl
     have ae:=lS r;rw[List.drop_eq_getElem_cons ae];rw[List.getElem?_eq_getElem ae] at r;simp only[Option.some.injEq] at r;rw[r];rfl
    obtain⟨fp,aa,ah⟩:=fD (α:=α) (fps:=List.replicate (l++ys).length []) a5 (by simp) ao;rw[PV] at ah;have af:Kb f1 w w':=⟨h.os,h.tape,h.output,h.size,λq hq ak=>h.block q hq (λe2=>by
     rcases a4 with ⟨e3,_⟩|⟨g0,e3,e4⟩
     ·rw[e3] at e2;cases e2
     ·rw[e3] at e2;simp only[Option.some.injEq] at e2;exact ak (by rw[e4,e2];simp))⟩
    rcases ah with ⟨_,e,_⟩|⟨g,e0,e,aw,ar⟩
    ·subst e;exact a2 w' (ov [v'] (l++ys)) [] af aa (by simp) (λg hg=>by cases hg)
    ·subst e;refine a2 w' (ov [v'] (l++ys)) [g] af aa (by simp) (λq hq=>?_);simp only[List.mem_singleton] at hq;subst hq;refine⟨?_,ar⟩
     rcases hblk with hb|hb
     ·rw[e0] at hb
      rcases a4 with ⟨e3,_⟩|⟨g0,e3,e4⟩
      ·rw[e3] at hb;cases hb
      ·rw[e3] at hb;simp only[Option.some.injEq] at hb;exact .inl (by rw[e4,hb];simp)
     ·rw[e0] at hb;simp only[Option.some.injEq] at hb;exact .inr (by omega)
 ·cases ht
theorem FY{t:TypeId}{ps:List (Nat × Operand)}{vs:List (Nat × Value)}{cs:List Value}(e:evp L ps=some vs)(hb:∀w,(Instr.build t vs.toArray).run P w= .ok (.agg cs.toArray) w)(g:o.op= .build t ps.toArray):C2 P N w0 H L o (.agg cs.toArray):=by
 intro a w hf _;unfold execOp;rw[g];have j:(ps.toArray.map λ(x:Nat × Operand)=>(x.1,a.eval x.2))=vs.toArray:=by
  rw[List.map_toArray,WW hf e]
 simp only;rw[Sem.run_bind];have h:(ps.toArray.map λ(x:Nat × Operand)=>match x with|(i,x)=>(i,a.eval x))=vs.toArray:=j;rw[h,hb w];rfl
end
end Go.Sy
namespace Go.Sy
open Go Go.RowKit
def YM{α:Type}:List α->List Nat->List α
 |l,[]=>l
 |l,k::ks=>YM (aK l k) ks
theorem R6{α:Type}:∀(ks:List Nat) (l:List α),List.Perm l (YM l ks)
 | [],l=>List.Perm.refl l
 |k::ks,l=>(O3 l k).trans (R6 ks (aK l k))
def vL{α:Type}:List α->List Nat->List α
 |_,[]=> []
 | l,i::F=>match l[i]? with
  |some x=>x::vL l F
  |none=>vL l F
def pkO{α:Type}:List (Option α)->List Nat->List α
 |_,[]=> []
 | m,i::F=>match m[i]? with
  |some (some x)=>x::pkO (m.set i none) F
  |_=>pkO m F
def nodupB:List Nat->Bool
 | []=>true
 |i::F=>F.all (λj=> !Nat.beq i j)&&nodupB F
theorem oB{α:Type}:∀{m:List (Option α)} {i:Nat} {x:α},m[i]?=some (some x)->List.Perm (m.filterMap id) (x::(m.set i none).filterMap id)
 | [],_,_,h=>by simp at h
 | y::m,0,x,h=>by
  simp only[List.getElem?_cons_zero,Option.some.injEq] at h;subst h;exact List.Perm.refl _
 | y::m,i+1,x,h=>by
  simp only[List.getElem?_cons_succ] at h;have a:=oB h
  cases y with
  |none=>simpa using a
  |some z=>exact(List.Perm.cons z (by simpa using a)).trans (List.Perm.swap _ _ _)
theorem TJ{α:Type}:∀(F:List Nat) (m:List (Option α)),∃X,List.Perm (m.filterMap id) (pkO m F++X)
 | [],m=>⟨_,List.Perm.refl _⟩
 | i::F,m=>by
  unfold pkO
  split
  ·rename_i x hx;obtain⟨X,a⟩:=TJ F (m.set i none);exact⟨X,(oB hx).trans (a.cons x)⟩
  ·exact TJ F m
theorem YN{α:Type}(l:List α):∀(F:List Nat) (m:List (Option α)),nodupB F=true->(∀i∈F,m[i]?=(l[i]?).map some)->vL l F=pkO m F
 | [],_,_,_=>rfl
 | i::F,m,hn,hm=>by
  simp only[nodupB,Bool.and_eq_true,List.all_eq_true,Bool.not_eq_true'] at hn;unfold vL pkO;rw[hm i (by simp)]
  cases hx:l[i]? with
  |none=>exact YN l F m hn.2 (λj a=>hm j (by simp[a]))
  | some x=>
   simp only[Option.map_some]
   congr 1
   refine YN l F _ hn.2 (λj a=>?_);have e:i≠j:=Nat.ne_of_beq_eq_false (hn.1 j a);rw[List.getElem?_set_ne e];exact hm j (by simp[a])
theorem oC{α:Type}(l:List α)(F:List Nat)(a:nodupB F=true):∃X,List.Perm l (vL l F++X):=by
 obtain⟨X,e⟩:=TJ F (l.map some);refine⟨X,?_⟩;rw[YN l F (l.map some) a (λi _=>by simp)];have:(l.map some).filterMap id=l:=by simp
 rwa [this] at e
theorem R7{fps:List (List Nat)}{i:Nat}{f:List Nat}:fps[i]?=some f->List.Perm fps.flatten (f++(fps.set i []).flatten):=by
 induction fps generalizing i with
 |nil=>intro h;simp at h
 | cons x fps ih=>
  intro h
  cases i with
  | zero=>
   simp only[List.getElem?_cons_zero,Option.some.injEq] at h;subst h;simp
  | succ i=>
   simp only[List.getElem?_cons_succ] at h;simp only[List.flatten_cons,List.set_cons_succ];refine((ih h).append_left x).trans ?_;rw[<-List.append_assoc,<-List.append_assoc];exact List.Perm.append_right _ List.perm_append_comm
theorem fF{fps:List (List Nat)}{i:Nat}{f:List Nat}(h:fps[i]?=some []):List.Perm (fps.set i f).flatten (f++fps.flatten):=by
 have g:=lS h;have h1:(fps.set i f)[i]?=some f:=by rw[List.getElem?_set_self g]
 have a:=R7 h1;rw[List.set_set] at a;have k:fps.set i []=fps:=by
  apply List.ext_getElem?
  intro j;rw[List.getElem?_set]
  split
  ·rename_i e;subst e;rw[h]
  ·rfl
 rw[k] at a;exact a
section
variable {P:Program} {N:Nat} {w0:World} {H:List Chunk} {L:Fm} {ops:Array Oper} {Q:Exit->Act->World->Prop} {o:Oper} {rest:List Oper} {d:Nat} {K:Act->World->Prop}
theorem St.drops{w:World}:∀(n:Nat) {H:List Chunk},St w0 H w->St w0 (H.drop n) w
 |0,_,h=>h
 |n+1,[],h=>h
 |n+1,c::H,h=>St.drops n h.tail
theorem St.fd{w:World}{H':List Chunk}(ks:List Nat)(n:Nat)(h:St w0 H w)(e:(YM H ks).drop n=H'):St w0 H' w:=e▸(h.perm (R6 ks H)).drops n
theorem St.pk{w:World}{H':List Chunk}(F:List Nat)(h:St w0 H w)(a:nodupB F=true)(e:vL H F=H'):St w0 H' w:=by
 obtain⟨X,g⟩:=oC H F a;exact e▸(h.perm g).dropEnd
theorem A6J{H':List Chunk}(F:List Nat)(g:nodupB F=true)(e:vL H F=H')(k:D N w0 H' L K):D N w0 H L K:=λa w h i=>k a w h (i.pk F g e)
def opn{α:Type}:List α->Option (List α)
 | []=>some []
 | x::l=>match opn l with
  |some r=>some (x::r)
  |none=>none
theorem oD{α:Type}:∀{l r:List α},opn l=some r->l=r
 | [],r,h=>by simpa [opn] using h
 | x::l,r,h=>by
  simp only[opn] at h
  split at h
  ·rename_i r' h1;simp only[Option.some.injEq] at h;rw[oD h1,h]
  ·cases h
def pko(H:List Chunk)(F:List Nat):Option (List Chunk):=cond (nodupB F) (opn (vL H F)) none
theorem WX{H H':List Chunk}{F:List Nat}(e:pko H F=some H'):nodupB F=true/\vL H F=H':=by
 unfold pko at e
 cases h:nodupB F with
 |true=>rw[h] at e;exact⟨rfl,oD e⟩
 |false=>rw[h] at e;cases e
theorem AG{H':List Chunk}(F:List Nat)(e:pko H F=some H')(k:D N w0 H' L K):D N w0 H L K:=A6J F (WX e).1 (WX e).2 k
theorem Dh(H':List Chunk)(e:H=H')(k:D N w0 H' L K):D N w0 H L K:=e▸k
theorem BZ{H':List Chunk}(ks:List Nat)(n:Nat)(e:(YM H ks).drop n=H')(k:D N w0 H' L K):D N w0 H L K:=λa w g h=>k a w g (h.fd ks n e)
def hl{α:Type} [Gd α] [Tid α](v:Value)(l:List α)(i:Nat)(es:List Value):Chunk where
 ok w fp:=∃(g cap:Nat) (cur:Array Value) (fps:List (List Nat)),v= .slice (some ⟨g,0,none⟩) l.length cap/\w.heap[g]?=some (.cells cur (Tid.id α) (0,0))/\l.length<=cap/\cap<=maxLen/\cur.size=cap*Gd.n α/\
  fps.length=l.length/\fps[i]?=some []/\fp=g::fps.flatten/\(cur.toList.drop (i*Gd.n α)).take (Gd.n α)=es/\
  ∀(j:Nat) (x:α) (f:List Nat),j≠i->l[j]?=some x->fps[j]?=some f->Gd.ow w ((cur.toList.drop (j*Gd.n α)).take (Gd.n α)) x f
 loc:=λw w' fp ⟨g,cap,cur,fps,h1,h2,h3,h4,h5,h6,h7,h8,h9,h10⟩ hs=>by
  subst h8;exact⟨g,cap,cur,fps,h1,by rw[hs g (by simp)];exact h2,h3,h4,h5,h6,h7,rfl,h9,λj x f hj hx hf=>
   Gd.ow_loc (h10 j x f hj hx hf) (λk hk=>hs k (List.mem_cons_of_mem _ (EG hf hk)))⟩
theorem K8{α:Type} [Gd α] [Tid α]{v:Value}{l:List α}{i:Nat}{x:α}(t:l[i]?=some x)(k:∀es,D N w0 (ov es x::hl v l i es::H) L K):D N w0 (ov [v] l::H) L K:=by
 intro a w hf hs;obtain⟨a2,r,_⟩:=hs.at (k:=0) rfl
 rcases r with ⟨_,e,_⟩|⟨g,cap,cur,fps,h1,z,h3,h4,h5,h6,h7,h8⟩
 ·subst e;simp at t
 ·simp only[List.cons.injEq,and_true] at h1;subst h1;refine k ((cur.toList.drop (i*Gd.n α)).take (Gd.n α)) a w hf (St.split (St.conv (c':=star _ _) hs ?_));intro fp hfp
  rcases hfp with ⟨e,_⟩|⟨g1,a0,a1,h,k1,u,k3,k4,k5,k6,k7,k8⟩
  ·simp at e
  ·simp only[List.cons.injEq,and_true,Value.slice.injEq,Option.some.injEq,Addr.mk.injEq] at k1;obtain⟨e1,_,e2⟩:=k1;subst e1;subst e2;rw[z] at u;simp only[Option.some.injEq,Obj.cells.injEq,and_true] at u;subst u;obtain⟨f,q⟩:=sL (l:=h) (i:=i) (by rw[k7];exact lS t);refine⟨f++(g::(h.set i []).flatten),⟨f,g::(h.set i []).flatten,rfl,k8 i x f t q,?_⟩,?_⟩
   ·refine⟨g,cap,cur,h.set i [],rfl,z,k3,k4,k5,by simpa using k7,by rw[List.getElem?_set_self (lS q)],rfl,rfl,λj y f' hj hy s=>?_⟩;rw[List.getElem?_set_ne (λe=>hj e.symm)] at s;exact k8 j y f' hy s
   ·subst k6;refine((R7 q).cons g).trans ?_;exact(List.perm_middle (l₁:=f) (l₂:=(h.set i []).flatten) (a:=g)).symm
theorem OM{α:Type} [Gd α] [Tid α]{v:Value}{l:List α}{i:Nat}{x:α}{es:List Value}(k:D N w0 (ov [v] (l.set i x)::H) L K):D N w0 (ov es x::hl v l i es::H) L K:=by
 intro a w hf hs;refine k a w hf (St.conv (c:=star (ov es x) (hl v l i es)) hs.star ?_);rintro fp ⟨f,f2,rfl,h1,g,cap,cur,fps,k1,u,z,k4,k5,t,k7,k8,k9,s⟩;subst k8;refine⟨g::(fps.set i f).flatten, .inr ⟨g,cap,cur,fps.set i f,by simpa using k1,u,by simpa using z,k4,k5,rfl,by simpa using t,λj y f' q h=>?_⟩,?_⟩
 ·by_cases hj:j=i
  ·subst hj;have r:j<l.length:=by have:=lS q;simpa using this
   rw[List.getElem?_set_self r] at q;rw[List.getElem?_set_self (by rw[t];exact r)] at h;simp only[Option.some.injEq] at q h;subst q;subst h;rw[k9];exact h1
  ·rw[List.getElem?_set_ne (λe=>hj e.symm)] at q h;exact s j y f' hj q h
 ·refine List.Perm.trans ?_ ((fF (f:=f) k7).symm.cons g);exact List.perm_middle
theorem zG{α:Type} [Gd α] [Tid α]{v:Value}{l:List α}{i k n:Nat}{es:List Value}{w:World}(a:Gd.n α=n)(e:St w0 H w)(hk:H[k]?=some (hl v l i es)):LN w (GI v (i*n)) es:=by
 subst a;obtain⟨fp,⟨g,cap,cur,fps,h1,h,s,t,z,h6,h7,h8,q,r⟩,_⟩:=e.at hk;subst h1;intro j u hu;rw[<-q,List.getElem?_take] at hu
 split at hu
 ·rw[List.getElem?_drop] at hu;simp only[GI];rw[add_add,E9,Nat.zero_add,cell_of_heap h];simpa using hu
 ·cases hu
theorem EL{α:Type} [Gd α] [Tid α]{t:TypeId}{e n b:Nat}{x i:Operand}{v:Value}{l:List α}{j:Nat}{es:List Value}{z:Int}(k:Nat)(h:AT P t=some (e,n,b))(q:o.op= .indexAddr t x i)(r:ev L x=some v)(s:ev L i=some (.int .i64 z))
  (hk:H[k]?=some (hl v l j es)) (u:z=(j:Int)):C2 P N w0 H L o (.pointer (some (GI v (j*n)))):=by
 intro a w hf hs;obtain⟨fp,⟨g,cap,cur,fps,h1,h2,h3,h4,h5,h6,h7,h8,h9,a0⟩,_⟩:=hs.at hk;have a1:j<l.length:=by rw[<-h6];exact lS h7
 unfold execOp;rw[q];simp only[hf.ev r,hf.ev s];rw[Sem.run_bind,nZ h h1 (by omega) (by omega)];subst u;simp
theorem lh{α:Type} [Gd α] [Tid α]{t n f:Nat}{x:Operand}{v u:Value}{l:List α}{j:Nat}{es:List Value}(k:Nat)(a:Gd.n α=n)(e:D9 P t=true)(g:o.op= .load t x)(h:ev L x=some (.pointer (some ((GI v (j*n)).add f))))
  (hk:H[k]?=some (hl v l j es)) (i:es[f]?=some u):C2 P N w0 H L o u:=
 WT e g h (λw q=>zG a q hk f u i)
theorem cm{f:Nat}{C4k:List Operand}{vs:List Value}{tys:Array TypeId}{v:Value}{c c':Chunk}(hb:AA P f=true)
  (g:o.op= .call ⟨.value (.func f),C4k.toArray,tys⟩) (h:evs L C4k=some vs) (hd:o.dst=some d) (i:Nat.blt d N=true)
  (hc:∀w,St w0 (c::H) w->Calls P f vs.toArray w λe w'=>e= .returned v/\St w0 (c'::H) w')
  (k:D N w0 (c'::H) ((d,v)::L) K):D N w0 (c::H) L (λa w=>o.wp P a w K Q):=
 K7 (σ:=Unit) (val:=λ_=>v) (H':=λ_=>c'::H) (J:=λ_=>True) hb g h hd i
  (λw j=>(hc w j).mono λ_ _ ⟨he,hx⟩=>⟨(),he,trivial,hx⟩) (λ_ _=>k)
end
theorem CX{P:Program}{f:Nat}{fn:Func}{c:Code}{vs:List Value}{w0 w:World}{H:List Chunk}{R:Ending->World->Prop}(N:Nat)(g:P.funcs[f]?=some fn)(hb:fn.body=some c)(j:fn.ntmps=N)(hl:Nat.ble vs.length N=true)(k:St w0 H w)
  (h:D N w0 H (WU 0 vs) (c.wp P (bodyPost P fn R))):Calls P f vs.toArray w R:=by
 refine calls_of_wp g hb (h _ _ ?_ k);have l:=Nat.le_of_ble_eq_true hl;refine⟨rfl,by simp[j];omega,λi v q=>?_⟩;obtain⟨_,a⟩:=O5 vs 0 i v q;simp only[Nat.sub_zero] at a;have e:=lS a;simp only[Array.getD_eq_getD_getElem?];rw[Array.getElem?_append_left (by simpa using e)];simp[a]
end Go.Sy
namespace Go.Sy
open Go Go.RowKit
def Rows(w:World)(v:Value)(hs:List Value):Prop:=∀(i:Nat) u,hs[i]?=some u->w.cell? (GI v (i*1))=some u
theorem Rows.loc{w w':World}{v:Value}{a:List Value}{g n cap:Nat}(e:v= .slice (some ⟨g,0,none⟩) n cap)(h:Rows w v a)(j:w'.heap[g]?=w.heap[g]?):Rows w' v a:=by
 subst e;intro i u hu;have:=h i u hu;simp only[GI,E9] at this⊢;unfold World.cell? at this⊢;simpa [j] using this
section
variable {P:Program} {N:Nat} {w0:World} {H:List Chunk} {L:Fm} {ops:Array Oper} {Q:Exit->Act->World->Prop} {o:Oper} {rest:List Oper} {d:Nat} {K:Act->World->Prop}
theorem lrd{α:Type} [Fl α] [Tid α]{t:TypeId}{x:Operand}{v:Value}{l:List α}{j:Nat}{y:α}(h:D9 P t=true)(i:o.op= .load t x)(k:ev L x=some (.pointer (some (GI v (j*1)))))
  (q:∀w,St w0 H w->Gd.rd w [v] l) (r:l[j]?=some y):C2 P N w0 H L o (Fl.enc y):=by
 refine WT h i k (λw s=>?_);obtain⟨es,g,a⟩:=AC (n:=1) rfl (q w s) r;have e:es=[Fl.enc y]:=a;subst e;have:=g 0 (Fl.enc y) rfl
 rwa [add_zero] at this
theorem A8k{α:Type} [Gd α] [Tid α]{t:TypeId}{x:Operand}{v:Value}{l:List α}{g:Nat × Nat × Nat}(h:AT P t=some g)(i:o.op= .call ⟨.builtin .len, #[x], #[t]⟩)(j:ev L x=some v)
  (k:∀w,St w0 H w->Gd.rd w [v] l):C2 P N w0 H L o (.int .i64 (l.length:Int)):=λa w q e=>
 Dl (N:=N) (w0:=w0) (H:=H) h i j (AE (k w e)) a w q e
end
end Go.Sy
namespace Go.Sy
open Go Go.RowKit
section
variable {P:Program} {N:Nat} {w0:World} {H:List Chunk} {L:Fm} {o:Oper}
theorem B3O{α:Type} [Gd α] [Tid α]{t:TypeId}{x:Operand}{v:Value}{l:List α}{n:Nat}{a:Nat × Nat × Nat}(e:AT P t=some a)(g:o.op= .call ⟨.builtin .len, #[x], #[t]⟩)(h:ev L x=some v)
  (i:∀w,St w0 H w->Gd.rd w [v] l) (hl:l.length=n):C2 P N w0 H L o (.int .i64 (n:Int)):=hl▸A8k e g h i
end
def L3(P:Program)(t:Nat):Option (List (Nat × Nat)× List Value):=
 match P.info? t,P.underlying t with
 | some it,some (.struct fields)=>match it.zero,fields.toList.mapM (λf=>(P.info? f.type).map λi=>(f.offset,i.size)) with
  |some z,some pl=>some (pl,z.cells.toList)
  |_,_=>none
 |_,_=>none
def aO(pl:List (Nat × Nat)):List Value->List (Nat × List Value)->Option (List Value)
 |c,[]=>some c
 | c,(i,xs)::rest=>match pl[i]? with
  |none=>none
  |some (off,size)=>bif Nat.beq xs.length size&&Nat.ble (off+xs.length) c.length then aO pl (c.take off++xs++c.drop (off+xs.length)) rest else none
def YO:List (Nat × Value)->List (Nat × List Value)->Prop
 | [],[]=>True
 |(i,v)::a,(j,c)::b=>i=j/\v.cells=c.toArray/\YO a b
 |_,_=>False
theorem vM(q off:Nat):∀(l:List Value) (p:Nat) (acc:Array Value),((l.zipIdx p).foldl (λ(c:Array Value) x=>c.setIfInBounds (off+x.2) x.1) acc)[q]?=if off+p<=q/\q<off+p+l.length/\q<acc.size then l[q-(off+p)]? else acc[q]?:=by
 intro l
 induction l with
 | nil=>
  intro p acc;simp only[List.zipIdx_nil,List.foldl_nil,List.length_nil];rw[if_neg (by omega)]
 | cons u l ih=>
  intro p acc;simp only[List.zipIdx_cons,List.foldl_cons];rw[ih];simp only[Array.size_setIfInBounds,List.length_cons]
  by_cases h1:off+(p+1)<=q/\q<off+(p+1)+l.length/\q<acc.size
  ·rw[if_pos h1,if_pos (by omega)];have:q-(off+p)=(q-(off+(p+1)))+1:=by omega
   rw[this,List.getElem?_cons_succ]
  ·rw[if_neg h1]
   by_cases a:off+p=q
   ·subst a
    by_cases e:off+p<acc.size
    ·rw[if_pos (by omega)];simp[e]
    ·rw[if_neg (by omega)];rw[Array.getElem?_eq_none (by simp;omega),Array.getElem?_eq_none (by omega)]
   ·rw[Array.getElem?_setIfInBounds_ne a,if_neg (by omega)]
theorem oE{pl:List (Nat × Nat)}:∀{vs:List (Nat × Value)} {xs:List (Nat × List Value)} {c cs:List Value},YO vs xs->aO pl c xs=some cs->Instr.fill (pl.toArray[·]?) c.toArray vs=some cs.toArray
 | [],[],c,cs,_,h=>by
  simp only[aO,Option.some.injEq] at h;subst h;rfl
 | (i,v)::vs,(j,x)::xs,c,cs,g,h=>by
  obtain⟨rfl,u,g⟩:=g;simp only[aO] at h;unfold Instr.fill;simp only[List.getElem?_toArray]
  cases hp:pl[i]? with
  |none=>rw[hp] at h;cases h
  | some os=>
   obtain⟨off,a⟩:=os;rw[hp] at h;simp only at h⊢
   cases hb:Nat.beq x.length a&&Nat.ble (off+x.length) c.length with
   |false=>rw[hb] at h;cases h
   | true=>
    rw[hb] at h;simp only[cond_true] at h;rw[Bool.and_eq_true] at hb;have h1:x.length=a:=Nat.eq_of_beq_eq_true hb.1;have s:off+x.length<=c.length:=Nat.le_of_ble_eq_true hb.2;rw[u];rw[if_neg (by simp[h1];omega)];have e:(x.toArray.zipIdx.foldl (λ(cs:Array Value) (y:Value × Nat)=>cs.setIfInBounds (off+y.2) y.1) c.toArray)=(c.take off++x++c.drop (off+x.length)).toArray:=by
     rw[<-Array.foldl_toList];have k:x.toArray.zipIdx.toList=x.zipIdx 0:=by simp
     rw[k]
     apply Array.ext_getElem?
     intro q;rw[vM];simp only[Nat.add_zero,List.size_toArray,List.getElem?_toArray];rw[O6 _ _ _ _ s]
     by_cases l:q<off
     ·rw[if_neg (by omega),if_pos l]
     ·rw[if_neg l]
      by_cases r:q<off+x.length
      ·rw[if_pos (by omega),if_pos r]
      ·rw[if_neg (by omega),if_neg r]
    have w:(x.toArray.zipIdx.foldl (λ(cs:Array Value) (y:Value × Nat)=>match y with|(c,j)=>cs.setIfInBounds (off+j) c) c.toArray)=(c.take off++x++c.drop (off+x.length)).toArray:=e;rw[w];have t:=oE g h;simpa using t
 | [],_::_,_,_,g,_=>g.elim
 |_::_,[],_,_,g,_=>g.elim
section
variable {P:Program} {N:Nat} {w0:World} {H:List Chunk} {L:Fm} {o:Oper}
theorem FJ{t:TypeId}{ps:List (Nat × Operand)}{vs:List (Nat × Value)}{xs:List (Nat × List Value)}{cs z:List Value}{pl:List (Nat × Nat)}(a:L3 P t=some (pl,z))(e:evp L ps=some vs)(hc:YO vs xs)(g:aO pl z xs=some cs)(h:o.op= .build t ps.toArray):C2 P N w0 H L o (.agg cs.toArray):=by
 refine FY e (λw=>run_build w t vs.toArray cs.toArray ?_) h;unfold L3 at a;unfold Program.built
 split at a
 ·rename_i it fields h1 i;rw[h1,i];simp only
  split at a
  ·rename_i zv pl' j k;simp only[Option.some.injEq,Prod.mk.injEq] at a;obtain⟨rfl,rfl⟩:=a;rw[j,k];simp only;have:=oE hc g;simpa using this
  ·cases a
 ·cases a
end
end Go.Sy
namespace Go.Sy
open Go Go.RowKit
def B7U(m:Int)(k:Nat):Int:=m/2^min k 64
def B7H(m n:Int):Int:=bits .and .i64 m n
def O8{α β:Type} [Gd α] [Gd β](w:World)(x:α)(y:β)(e:Ending)(w':World):Prop:=
 ∃c1 c2 f1 f2,e= .returned (.tuple #[Gd.vl α c1,Gd.vl β c2])/\Gd.ow w' c1 x f1/\Gd.ow w' c2 y f2/\(f1++f2).Nodup/\(∀g∈f1++f2,w.heap.size<=g)/\Ex w w'
def C0F{α β γ:Type} [Gd α] [Gd β] [Gd γ](w:World)(x:α)(y:β)(z:γ)(e:Ending)(w':World):Prop:=
 ∃c1 c2 c3 f1 f2 f3,e= .returned (.tuple #[Gd.vl α c1,Gd.vl β c2,Gd.vl γ c3])/\Gd.ow w' c1 x f1/\Gd.ow w' c2 y f2/\Gd.ow w' c3 z f3/\(f1++(f2++f3)).Nodup/\(∀g∈f1++(f2++f3),w.heap.size<=g)/\Ex w w'
section
variable {P:Program} {N:Nat} {w0:World} {H:List Chunk} {L:Fm} {ops:Array Oper} {Q:Exit->Act->World->Prop} {o:Oper} {rest:List Oper} {d:Nat} {K:Act->World->Prop}
theorem MS(i:Nat){v v':Value}(h:look L i=some v)(e:v=v')(r:Nat.blt i N=true)(k:D N w0 H ((i,v')::L) K):D N w0 H L K:=by
 subst e;refine λa w g q=>k a w ⟨g.dfr,g.size,λj u l=>?_⟩ q
 simp only[look] at l
 cases hb:Nat.beq i j with
 | true=>
  have e:i=j:=Nat.eq_of_beq_eq_true hb;subst e;rw[hb] at l;simp only[cond_true,Option.some.injEq] at l;rw[<-l];exact g.at_ i _ h
 |false=>rw[hb] at l;exact g.at_ j u l
theorem cr2{α β:Type} [Gd α] [Gd β]{f:Nat}{C4k:List Operand}{vs:List Value}{tys:Array TypeId}{x:α}{y:β}(hb:AA P f=true)
  (q:o.op= .call ⟨.value (.func f),C4k.toArray,tys⟩) (r:evs L C4k=some vs) (hd:o.dst=some d) (s:Nat.blt d N=true)
  (hc:∀w,St w0 H w->Calls P f vs.toArray w (O8 w x y))
  (k:∀c1 c2,D N w0 (ov c1 x::ov c2 y::H) ((d, .tuple #[Gd.vl α c1,Gd.vl β c2])::L) K):D N w0 H L (λa w=>o.wp P a w K Q):=
 K7 (σ:=List Value × List Value) (val:=λc=> .tuple #[Gd.vl α c.1,Gd.vl β c.2]) (H':=λc=>ov c.1 x::ov c.2 y::H) (J:=λ_=>True) hb q r hd s
  (λw j=>(hc w j).mono λ_ _ ⟨c1,c2,f1,e,he,h1,i,hn,hb,hx⟩=>⟨(c1,c2),he,trivial,
   St.split (j.push hx (c:=Sy.star (ov c1 x) (ov c2 y)) (fp:=f1++e) ⟨f1,e,rfl,h1,i⟩ hn (λg l=>⟨hb g l,by
    rcases List.mem_append.1 l with h|h
    ·exact Gd.ow_lt h1 g h
    ·exact Gd.ow_lt i g h⟩))⟩) (λc _=>k c.1 c.2)
theorem star3{w:World}{c1 c2 c3:Chunk}(h:St w0 (Sy.star c1 (Sy.star c2 c3)::H) w):St w0 (c1::c2::c3::H) w:=by
 have h1:=h.split;have p:List.Perm (c1::Sy.star c2 c3::H) (Sy.star c2 c3::c1::H):=List.Perm.swap _ _ _;have a:=(h1.perm p).split;refine a.perm ?_;exact(List.Perm.cons c2 (List.Perm.swap _ _ _)).trans (List.Perm.swap _ _ _)
theorem cr3{α β γ:Type} [Gd α] [Gd β] [Gd γ]{f:Nat}{C4k:List Operand}{vs:List Value}{tys:Array TypeId}{x:α}{y:β}{z:γ}(hb:AA P f=true)
  (s:o.op= .call ⟨.value (.func f),C4k.toArray,tys⟩) (t:evs L C4k=some vs) (hd:o.dst=some d) (u:Nat.blt d N=true)
  (hc:∀w,St w0 H w->Calls P f vs.toArray w (C0F w x y z))
  (k:∀c1 c2 c3,D N w0 (ov c1 x::ov c2 y::ov c3 z::H) ((d, .tuple #[Gd.vl α c1,Gd.vl β c2,Gd.vl γ c3])::L) K):D N w0 H L (λa w=>o.wp P a w K Q):=
 K7 (σ:=List Value × List Value × List Value) (val:=λc=> .tuple #[Gd.vl α c.1,Gd.vl β c.2.1,Gd.vl γ c.2.2]) (H':=λc=>ov c.1 x::ov c.2.1 y::ov c.2.2 z::H) (J:=λ_=>True) hb s t hd u
  (λw q=>(hc w q).mono λ_ _ ⟨c1,c2,c3,f1,e,i,he,h1,j,l,hn,hb,hx⟩=>⟨(c1,c2,c3),he,trivial,
   star3 (q.push hx (c:=Sy.star (ov c1 x) (Sy.star (ov c2 y) (ov c3 z))) (fp:=f1++(e++i)) ⟨f1,_,rfl,h1,e,i,rfl,j,l⟩ hn (λg r=>⟨hb g r,by
    rcases List.mem_append.1 r with h|h
    ·exact Gd.ow_lt h1 g h
    ·rcases List.mem_append.1 h with h|h
     ·exact Gd.ow_lt j g h
     ·exact Gd.ow_lt l g h⟩))⟩) (λc _=>k c.1 c.2.1 c.2.2)
theorem AY{α β:Type} [Gd α] [Gd β]{w:World}{c1 c2:List Value}{x h:α}{y i:β}(j:St w0 (ov c1 h::ov c2 i::H) w)(l:h=x)(q:i=y):O8 w0 x y (.returned (.tuple #[Gd.vl α c1,Gd.vl β c2])) w:=by
 subst l;subst q;obtain⟨fp,a,z,t⟩:=j.star.at (k:=0) rfl;obtain⟨v,r,e,h1,s⟩:=a;subst e;exact⟨c1,c2,v,r,rfl,h1,s,z,λg u=>(t g u).1,j.bel⟩
theorem St.star3{w:World}{c1 c2 c3:Chunk}(h:St w0 (c1::c2::c3::H) w):St w0 (Sy.star c1 (Sy.star c2 c3)::H) w:=by
 have p:List.Perm (c1::c2::c3::H) (c2::c3::c1::H):=(List.Perm.swap _ _ _).trans (List.Perm.cons c2 (List.Perm.swap _ _ _));have h1:=(h.perm p).star;exact(h1.perm (List.Perm.swap _ _ _)).star
theorem B6I{α β γ:Type} [Gd α] [Gd β] [Gd γ]{w:World}{c1 c2 c3:List Value}{x i:α}{y j:β}{z l:γ}(q:St w0 (ov c1 i::ov c2 j::ov c3 l::H) w)(r:i=x)(a:j=y)(s:l=z):C0F w0 x y z (.returned (.tuple #[Gd.vl α c1,Gd.vl β c2,Gd.vl γ c3])) w:=by
 subst r;subst a;subst s;obtain⟨fp,h,hn,hb⟩:=q.star3.at (k:=0) rfl;obtain⟨f1,a0,e,h1,t,u,a,v,h3⟩:=h;subst e;subst a;exact⟨c1,c2,c3,f1,t,u,rfl,h1,v,h3,hn,λg hg=>(hb g hg).1,q.bel⟩
def oF(tmps:Array Value):ResultVar->Sem Value
 | .tmp t=>pure (tmps.getD t undef)
 | .cell a t=>do loadVar t (<-asAddr (tmps.getD a undef))
theorem PX(fn:Func)(tmps:Array Value):results fn tmps=(do let vs<-fn.results.mapM (oF tmps);pure (if h:vs.size=1 then vs[0] else .tuple vs)):=rfl
def RV(P:Program)(N:Nat)(w0:World)(H:List Chunk)(L:Fm)(r:ResultVar)(v:Value):Prop:=
 ∀a w,Fits a N L->St w0 H w->Sem.run P (oF a.tmps r) w=Result.ok v w
theorem D8{t:Tmp}{v:Value}(h:look L t=some v):RV P N w0 H L (.tmp t) v:=λa w e _=>by
 simp only[oF,e.at_ t v h];rfl
theorem zH{t:Tmp}{ty:TypeId}{g:Nat}{cs:List Value}(k:Nat)(i:DV P ty=some cs.length)(l:look L t=some (.pointer (some ⟨g,0,none⟩)))(hk:H[k]?=some (bx g cs)):RV P N w0 H L (.cell t ty) (.agg cs.toArray):=λa w q s=>by
 have h:LN w ⟨g,0,none⟩ cs:=λj u r=>by
  rw[E9,Nat.zero_add];exact JU hk r w s
 have hl:=N5 i h;have e:=q.at_ t _ l;simp only[Instr.loadAt,Instr.sureAddr,Sem.run_bind,Sem.run_pure,Result.andThen_ok] at hl;simp only[oF,e];simp[hl,asAddr]
theorem DL{fn:Func}{R:Ending->World->Prop}{j k:ResultVar}{e v2:Value}(l:fn.results= #[j,k])(h1:RV P N w0 H L j e)(q:RV P N w0 H L k v2)(h:∀w,St w0 H w->R (.returned (.tuple #[e,v2])) w):D N w0 H L (bodyPost P fn R .ret):=
 λa w g i=>by
  refine bodyPost_ret (v:= .tuple #[e,v2]) ?_ g.dfr (h w i);have r:=h1 a w g i;have s:=q a w g i;have key:Sem.run P (fn.results.mapM (oF a.tmps)) w=Result.ok #[e,v2] w:=by
   rw[l];simp only[List.mapM_toArray,List.mapM_cons,List.mapM_nil,Sem.run_bind,Sem.run_map,bind_pure_comp,map_pure];simp[r,s]
  rw[PX,Sem.run_bind,key];rfl
theorem B8Y{fn:Func}{R:Ending->World->Prop}{j k l:ResultVar}{e v2 v3:Value}(q:fn.results= #[j,k,l])(h1:RV P N w0 H L j e)(r:RV P N w0 H L k v2)(s:RV P N w0 H L l v3)(h:∀w,St w0 H w->R (.returned (.tuple #[e,v2,v3])) w):D N w0 H L (bodyPost P fn R .ret):=
 λa w g i=>by
  refine bodyPost_ret (v:= .tuple #[e,v2,v3]) ?_ g.dfr (h w i);have t:=h1 a w g i;have u:=r a w g i;have z:=s a w g i;have key:Sem.run P (fn.results.mapM (oF a.tmps)) w=Result.ok #[e,v2,v3] w:=by
   rw[q];simp only[List.mapM_toArray,List.mapM_cons,List.mapM_nil,Sem.run_bind,Sem.run_map,bind_pure_comp,map_pure];simp[t,u,z]
  rw[PX,Sem.run_bind,key];rfl
theorem A1K{c:Code}(I:Act->World->Prop)(h:D N w0 H L (c.wp P (Exit.then I Q)))(k:∀a w,I a w->Q .normal a w):D N w0 H L (c.wp P Q):=
 λa w i j=>Code.wp_mono (λe a w g=>by
  cases e with
  |normal=>exact k a w g
  |_=>exact g) (h a w i j)
def oG(p:Nat->Prop):List Nat->Prop
 | []=>True
 |i::l=>p i/\oG p l
theorem oG.get{p:Nat->Prop}:∀{l:List Nat},oG p l->∀i∈l,p i
 | [],_,_,h=>by cases h
 | _::l,⟨h,hl⟩,i,hi=>by
  rcases List.mem_cons.1 hi with e|e
  ·subst e;exact h
  ·exact oG.get hl i e
theorem tyN{g:List Chunk}{z:List Nat}{n:Nat}{listed:Array Bool}(l:List Nat)(hl:Nat.blt 0 l.length=true)(e:Region.ready .any ops listed=l)
  (k:oG (λi=>∃o,ops[i]?=some o/\gd ops L o=some true/\D N w0 H L (λa w=>o.wp P a w (λr w'=>(i∉z->St w0 g w')/\JG P ops Q w0 g z n (listed.setIfInBounds i true) r w') (NoPanic Q))) l):D N w0 H L (JG P ops Q w0 g z (n+1) listed):=by
 intro a w hf hs hz hc;refine⟨λh0=>?_,λj q=>?_⟩
 ·rw[h0] at e;subst e
  cases hl
 ·have h:=q;rw[e] at q;obtain⟨o,t,v,u⟩:=k.get j q;unfold wpOp;simp only[t,LM hf v,if_true];exact .inl (Oper.wp_mono (λr w' s=>⟨s.1,s.2 hz (J2 hc h)⟩) (u a w hf hs))
theorem C8t{x y:Operand}{m n:Int}{tys:Array TypeId}(g:o.op= .call ⟨.builtin .max, #[x,y],tys⟩)(h:ev L x=some (.int .i64 m))(i:ev L y=some (.int .i64 n)):C2 P N w0 H L o (.int .i64 (max m n)):=by
 intro a w hf _;have e:(if n>m then n else m)=max m n:=by omega
 unfold execOp;rw[g];simp[resolve,invoke,builtin,hf.ev h,hf.ev i,run_max_int2,e]
theorem oH{t g:TypeId}{x y:Operand}{m n:Int}(h:o.op= .binOp .rem t x y g)(i:ev L x=some (.int .i64 m))(j:ev L y=some (.int .i64 n))(k:(n==0)=false):C2 P N w0 H L o (.int .i64 (m.tmod n)):=by
 intro a w hf _;have e:¬n=0:=by simpa using k
 unfold execOp;rw[h];simp[hf.ev i,hf.ev j,eqGuard,binOp,Op.intDiv,e]
theorem B9v{t g:TypeId}{x y:Operand}{m:Int}{k:Nat}{e:IntKind}(h:o.op= .binOp .shr t x y g)(i:ev L x=some (.int .i64 m))(j:ev L y=some (.int e (k:Int))):C2 P N w0 H L o (.int .i64 (B7U m k)):=by
 intro a w hf _;unfold execOp;rw[h];simp only[hf.ev i,hf.ev j];simp[eqGuard,binOp,shift_shr_any .i64 e m (k:Int) (Int.natCast_nonneg k),B7U,IntKind.bits]
theorem B8Z{t e:TypeId}{x y:Operand}{m n:Int}(g:o.op= .binOp .and t x y e)(h:ev L x=some (.int .i64 m))(i:ev L y=some (.int .i64 n)):C2 P N w0 H L o (.int .i64 (B7H m n)):=by
 intro a w hf _;unfold execOp;rw[g];simp only[hf.ev h,hf.ev i];simp[eqGuard,binOp,intBits_and,B7H]
end
end Go.Sy
namespace Go.Sy
open Go Go.RowKit
def fz(wz wb:World):Chunk where
 ok w fp:=∀(p:Addr) (v:Value),wb.cell? p=some v->(p.block∈fp/\w.cell? p=some v)\/wz.cell? p=some v
 loc:=λw w' fp h hs p v hv=>by
  rcases h p v hv with ⟨h1,h2⟩|h2
  ·refine .inl ⟨h1,?_⟩;have:=hs p.block h1;unfold World.cell? at h2⊢;rw[this];exact h2
  ·exact .inr h2
def over(wb w:World)(l:List Nat):World:=
 {wb with heap:=((List.range (max w.heap.size wb.heap.size)).map λg=>((if l.contains g then w.heap[g]? else wb.heap[g]?).getD (.cells #[] 0 (0,0)))).toArray}
theorem C8v{wb w:World}{l:List Nat}{g:Nat}(h:g∈l)(a:g<w.heap.size):(over wb w l).heap[g]?=w.heap[g]?:=by
 have e:l.contains g=true:=by simpa using h
 have i:g<max w.heap.size wb.heap.size:=by omega
 simp only[over,List.getElem?_toArray,List.getElem?_map,List.getElem?_range i,Option.map_some,e,if_true];rw[Array.getElem?_eq_getElem a];rfl
theorem PY{wb w:World}{l:List Nat}{p:Addr}{v:Value}(h:p.block∉l):(over wb w l).cell? p=some v↔wb.cell? p=some v:=by
 have e:l.contains p.block=false:=by simpa using h
 unfold World.cell?
 by_cases hm:p.block<max w.heap.size wb.heap.size
 ·simp only[over,List.getElem?_toArray,List.getElem?_map,List.getElem?_range hm,Option.map_some,e]
  cases hb:wb.heap[p.block]? with
  |none=>simp
  |some o=>simp
 ·have h1:wb.heap[p.block]?=none:=Array.getElem?_eq_none (by omega);have a:(over wb w l).heap[p.block]?=none:=by
   apply Array.getElem?_eq_none
   simp only[over,List.size_toArray,List.length_map,List.length_range];omega
  rw[h1,a]
theorem O9{w w':World}{p:Addr}(h:w'.heap[p.block]?=w.heap[p.block]?):w'.cell? p=w.cell? p:=by
 unfold World.cell?;rw[h]
section
variable {P:Program} {N:Nat} {w0:World} {H:List Chunk} {L:Fm} {ops:Array Oper} {Q:Exit->Act->World->Prop} {o:Oper} {rest:List Oper} {d:Nat} {K:Act->World->Prop}
theorem Q0{w e wb:World}{k:Nat}(i:E4 e w0)(g:St w0 H w)(hk:H[k]?=some (fz e wb)):E4 wb w:=λp v j=>by
 obtain⟨fp,a,_⟩:=g.at hk
 rcases a p v j with ⟨_,h⟩|h
 ·exact h
 ·exact Ex.cell g.bel (i p v h)
theorem B0{α:Type} [Gd α]{w a wb:World}{cs:List Value}{x:α}(k:Nat)(e:E4 a w0)(g:St w0 H w)(hk:H[k]?=some (fz a wb))(h:Gd.rd wb cs x):Gd.rd w cs x:=Gd.rd_sub (Q0 e g hk) h
theorem GL(w a:World):St w [fz a a] w:=(St.start w).nul (c:=fz a a) (λ_ _ h=> .inr h)
theorem oJ{c:Chunk}{t wb:World}{φ:World->Prop}(hz:E4 t w0)(hc:∀w fp wb',c.ok w fp->(∀g∈fp,g<w.heap.size)->E4 wb wb'->(∀g∈fp,wb'.heap[g]?=w.heap[g]?)->φ wb')
  (k:∀wb',E4 wb wb'->φ wb'->D N w0 (fz t wb'::H) L K):D N w0 (c::fz t wb::H) L K:=by
 intro a w hf hs;obtain⟨i,l,h1,h2,hn,z,s⟩:=hs.open2;have u:∀(p:Addr) (v:Value),t.cell? p=some v->w.cell? p=some v:=λp v j=>Ex.cell hs.bel (hz p v j)
 have r:∀g∈i++l,(over wb w (i++l)).heap[g]?=w.heap[g]?:=λg e=>C8v e (z g e).2
 have q:E4 wb (over wb w (i++l)):=λp v j=>by
  by_cases hp:p.block∈i++l
  ·rw[O9 (r _ hp)]
   rcases h2 p v j with ⟨_,h⟩|h
   ·exact h
   ·exact u p v h
  ·exact(PY hp).2 j
 refine k (over wb w (i++l)) q (hc w i _ h1 (λg e=>(z g (by simp[e])).2) q (λg e=>r g (by simp[e]))) a w hf (s w (fz t (over wb w (i++l))) (i++l) (Kb.of_ex (Ex.refl w)) ?_ hn (λg e=>⟨.inl e,(z g e).2⟩));intro p v j
 by_cases hp:p.block∈i++l
 ·rw[O9 (r _ hp)] at j;exact .inl ⟨hp,j⟩
 ·rw[PY hp] at j
  rcases h2 p v j with ⟨h,_⟩|h
  ·exact absurd (List.mem_append_right _ h) hp
  ·exact .inr h
theorem MY{α:Type} [Gd α]{e wb:World}{cs:List Value}{y:α}(h:E4 e w0)(k:∀a,E4 wb a->Gd.rd a cs y->D N w0 (fz e a::H) L K):D N w0 (ov cs y::fz e wb::H) L K:=
 oJ h (λw fp a g _ _ i=>Gd.ow_rd (Gd.ow_loc g i)) k
def Z(_:World)(α:Type):Type:=α
instance instZ{wb:World}{α:Type} [Gd α]:Gd (Z wb α) where
 n:=Gd.n α
 st:=Gd.st α
 rd:=λ_ cs (x:α)=>Gd.rd wb cs x
 ow:=λ_ cs (x:α) fp=>Gd.rd wb cs x/\fp=[]
 rd_len:=λh=>Gd.rd_len (α:=α) h
 rd_one:=λh=>Gd.rd_one (α:=α) h
 rd_sub:=λ_ h=>h
 ow_loc:=λh _=>h
 ow_lt:=λh g hg=>by rw[h.2] at hg;cases hg
 ow_rd:=λh=>h.1
instance instTZ{wb:World}{α:Type} [Tid α]:Tid (Z wb α):=⟨Tid.id α⟩
abbrev oz{α:Type} [Gd α] [Tid α](wb:World)(v:Value)(l:List α):Chunk:=ov (α:=List (Z wb α)) [v] l
abbrev oe{α:Type} [Gd α](wb:World)(cs:List Value)(y:α):Chunk:=ov (α:=Z wb α) cs y
abbrev ozh{α:Type} [Gd α] [Tid α](wb:World)(v:Value)(l:List α)(i:Nat)(es:List Value):Chunk:=hl (α:=Z wb α) v l i es
theorem ML{α:Type} [Gd α]{wb:World}{cs:List Value}{y:α}(h:Gd.rd wb cs y)(k:D N w0 (oe wb cs y::H) L K):D N w0 H L K:=
 λa w e g=>k a w e (g.nul (c:=oe wb cs y) ⟨h,rfl⟩)
theorem A1L{α:Type} [Gd α] [Tid α]{w wb a:World}{v:Value}{l:List α}{fp:List Nat}(hu:E4 wb a)(h:Gd.ow (α:=List (Z wb α)) w [v] l fp):Gd.ow (α:=List (Z a α)) w [v] l fp:=by
 rcases h with h|⟨g,cap,cur,fps,h1,e,j,k,q,r,s,t⟩
 ·exact .inl h
 ·refine .inr ⟨g,cap,cur,fps,h1,e,j,k,q,r,s,λi x f hx z=>?_⟩;obtain⟨k1,u⟩:=t i x f hx z;exact⟨Gd.rd_sub (α:=α) hu k1,u⟩
theorem St.setEq{w:World}{c c':Chunk}{k:Nat}(i:St w0 H w)(hk:H[k]?=some c)(hc:∀fp,c.ok w fp->c'.ok w fp):St w0 (H.set k c') w:=by
 obtain⟨fp,e,l,j,a⟩:=i.set hk;exact a w c' fp (Kb.of_ex (Ex.refl w)) (hc fp e) l (λg h=>⟨.inl h,(j g h).2⟩)
theorem MM{α:Type} [Gd α] [Tid α]{wb e:World}{v:Value}{l:List α}(i:Nat)(hu:E4 wb e)(hk:H[i]?=some (oz wb v l))(k:D N w0 (H.set i (oz e v l)) L K):D N w0 H L K:=
 λa w g j=>k a w g (j.setEq hk λ_ h=>A1L hu h)
theorem vN{α:Type} [Gd α] [Tid α]{w wb e:World}{v:Value}{l:List α}{fp:List Nat}(hu:E4 wb e)(h:Gd.ow (α:=List (Z wb α)) w [v] l fp)(r:∀g∈fp,e.heap[g]?=w.heap[g]?):Gd.rd e [v] l:=by
 rcases h with ⟨h1,k,_⟩|⟨g,cap,cur,fps,h1,k,s,t,h5,z,h7,h8⟩
 ·subst k;rw[h1];exact O4 (α:=α)
 ·refine⟨some ⟨g,0,none⟩,cap,h1,⟨s,t⟩,λi y q=>?_⟩;obtain⟨f,hf⟩:=sL (l:=fps) (i:=i) (by rw[h7];exact lS q);obtain⟨k1,_⟩:=h8 i y f q hf;refine⟨_,(cur.toList.drop (i*Gd.n α)).take (Gd.n α),rfl,λj u a=>?_,Gd.rd_sub (α:=α) hu k1⟩;have hg:e.heap[g]?=some (.cells cur (Tid.id α) (0,0)):=by rw[r g (by rw[z];simp)];exact k
  rw[E9,cell_of_heap hg];rw[List.getElem?_take] at a
  split at a
  ·rw[List.getElem?_drop] at a;simpa using a
  ·cases a
theorem IJ{α:Type} [Gd α] [Tid α]{e wb:World}{v:Value}{l:List α}(h:E4 e w0)(k:∀a,E4 wb a->Gd.rd a [v] l->D N w0 (fz e a::H) L K):D N w0 (oz wb v l::fz e wb::H) L K:=
 oJ h (λw fp a g _ j i=>vN j g i) k
theorem hT{α:Type} [Gd α] [Tid α]{w g wb:World}{v:Value}{l:List α}{i j:Nat}(k:E4 g w0)(h:St w0 H w)(hk:H[i]?=some (oz wb v l))(r:H[j]?=some (fz g wb)):Gd.rd w [v] l:=by
 obtain⟨a,cap,e,hm,z⟩:=rO (α:=List (Z wb α)) h hk;refine⟨a,cap,e,hm,λq x u=>?_⟩;obtain⟨ad,es,h1,s,t⟩:=z q x u;exact⟨ad,es,h1,s,B0 (α:=α) j k h r (show Gd.rd (α:=α) wb es x from t)⟩
theorem LN.sub{w w':World}{p:Addr}{es:List Value}(h:LN w p es)(e:E4 w w'):LN w' p es:=λj u a=>e _ _ (h j u a)
theorem lrz{t:TypeId}{x:Operand}{p:Addr}{es:List Value}{v:Value}{j:Nat}{a wb:World}(k:Nat)(e:E4 a w0)(hk:H[k]?=some (fz a wb))(g:D9 P t=true)(h:o.op= .load t x)(i:ev L x=some (.pointer (some (p.add j))))
  (l:LN wb p es) (q:es[j]?=some v):C2 P N w0 H L o v:=WT g h i (λ_ r=>Q0 e r hk _ _ (l j v q))
theorem SO{t:TypeId}{x:Operand}{p:Addr}{es:List Value}{a wb:World}(k:Nat)(e:E4 a w0)(hk:H[k]?=some (fz a wb))(g:DV P t=some es.length)(h:o.op= .load t x)(i:ev L x=some (.pointer (some p)))
  (j:LN wb p es):C2 P N w0 H L o (.agg es.toArray):=hJ g h i (λ_ l=>j.sub (Q0 e l hk))
def Zok(wz wb w w':World):Prop:=Ex w w'/\E4 wz wb/\∃fp,fp.Nodup/\(∀g∈fp,w.heap.size<=g/\g<w'.heap.size)/\(fz wz wb).ok w' fp
def nO{α:Type} [Gd α](wz w:World)(x:α)(e:Ending)(w':World):Prop:=∃cs wb,e= .returned (Gd.vl α cs)/\Zok wz wb w w'/\Gd.rd wb cs x
def B2v{α β:Type} [Gd α] [Gd β](wz w:World)(x:α)(y:β)(e:Ending)(w':World):Prop:=∃c1 c2 wb,e= .returned (.tuple #[Gd.vl α c1,Gd.vl β c2])/\Zok wz wb w w'/\Gd.rd wb c1 x/\Gd.rd wb c2 y
theorem H3{w a wb:World}{k:Nat}(g:St w0 H w)(hk:H[k]?=some (fz a wb))(hu:E4 a wb):Zok a wb w0 w:=by
 obtain⟨fp,e,i,h⟩:=g.at hk;exact⟨g.bel,hu,fp,i,h,e⟩
theorem aP{w w' s wb i:World}(t:St w0 (fz s wb::H) w)(hz:Zok wb i w w'):St w0 (fz s i::H) w':=by
 obtain⟨r,hu,fp,hn,z,a1⟩:=hz;obtain⟨f1,a2,a3,a4,a5⟩:=(t.ext r).set (k:=0) rfl;obtain⟨f0,j,u,l,q⟩:=t.set (k:=0) rfl;have h2:St w0 (fz s wb::H) w':=t.ext r;refine q w' (fz s i) (f0++fp) (Kb.of_ex r) ?_ ?_ ?_
 ·intro p v hv
  rcases a1 p v hv with ⟨h,h'⟩|h
  ·exact .inl ⟨List.mem_append_right _ h,h'⟩
  ·rcases j p v h with ⟨h,h'⟩|h
   ·exact .inl ⟨List.mem_append_left _ h,Ex.cell r h'⟩
   ·exact .inr h
 ·rw[List.nodup_append];refine⟨u,hn,λa ha b a0 e=>?_⟩;have:=(l a ha).2;have:=(z b a0).1;omega
 ·intro g hg
  rcases List.mem_append.1 hg with h|h
  ·exact⟨.inl h,Nat.lt_of_lt_of_le (l g h).2 r.size⟩
  ·exact⟨.inr (z g h).1,(z g h).2⟩
theorem cz{α:Type} [Gd α]{f:Nat}{C4k:List Operand}{vs:List Value}{tys:Array TypeId}{x:α}{e wb:World}(hb:AA P f=true)
  (i:o.op= .call ⟨.value (.func f),C4k.toArray,tys⟩) (j:evs L C4k=some vs) (hd:o.dst=some d) (l:Nat.blt d N=true) (q:E4 e w0)
  (hc:∀w,E4 wb w->Calls P f vs.toArray w (nO wb w x))
  (k:∀cs wb',E4 wb wb'->Gd.rd wb' cs x->D N w0 (fz e wb'::H) ((d,Gd.vl α cs)::L) K):D N w0 (fz e wb::H) L (λa w=>o.wp P a w K Q):=
 K7 (σ:=List Value × World) (val:=λs=>Gd.vl α s.1) (H':=λs=>fz e s.2::H) (J:=λs=>E4 wb s.2/\Gd.rd s.2 s.1 x) hb i j hd l
  (λw g=>(hc w (Q0 (k:=0) q g rfl)).mono λ_ _ ⟨cs,wb',he,hzk,hr⟩=>⟨(cs,wb'),he,⟨hzk.2.1,hr⟩,aP g hzk⟩) (λs h=>k s.1 s.2 h.1 h.2)
theorem HH.z{α:Type} [Gd α]{w w' i:World}{x:α}{e:Ending}(h:HH w x e w')(u:E4 i w):nO i w x e w':=by
 obtain⟨cs,fp,he,r,hn,t,hx⟩:=h;have j:=Gd.ow_lt r;have l:∀g∈fp,(over i w' fp).heap[g]?=w'.heap[g]?:=λg k=>C8v k (j g k)
 have q:∀(p:Addr) (v:Value),i.cell? p=some v->p.block∉fp:=λp v a s=>by
  have:=lt_of_cell (u p v a);have:=t _ s;omega
 refine⟨cs,over i w' fp,he,⟨hx,λp v a=>(PY (q p v a)).2 a,fp,hn,λg k=>⟨t g k,j g k⟩,λp v a=>?_⟩,Gd.ow_rd (Gd.ow_loc r l)⟩
 by_cases s:p.block∈fp
 ·rw[O9 (l _ s)] at a;exact .inl ⟨s,a⟩
 ·exact .inr ((PY s).1 a)
end
def slP(v:Value)(m:Nat):Value:=match v with| .slice a _ c=> .slice a m c|v=>v
theorem hU{α:Type} [Gd α] [Tid α]{w:World}{v:Value}{l:List α}{m:Nat}(h:Gd.rd w [v] l)(r:m<=l.length):Gd.rd w [slP v m] (l.take m):=by
 obtain⟨a,c,e,⟨h1,j⟩,q⟩:=h;simp only[List.cons.injEq,and_true] at e;subst e;have hl:(l.take m).length=m:=by rw[List.length_take];omega
 refine⟨a,c,by rw[hl];rfl,⟨by omega,j⟩,λi y g=>?_⟩;have k:=lS g;rw[List.getElem?_take,if_pos (by omega)] at g;exact q i y g
section
variable {P:Program} {N:Nat} {w0:World} {H:List Chunk} {L:Fm} {ops:Array Oper} {Q:Exit->Act->World->Prop} {o:Oper} {rest:List Oper} {d:Nat} {K:Act->World->Prop}
theorem lJ{t e n b:Nat}(a:AT P t=some (e,n,b)):P.underlying t=some (.slice e)/\∀w,(sizeOf e).run P w= .ok n w:=by
 unfold AT at a
 split at a
 ·rename_i e' he;simp only[Option.map_eq_some_iff,Prod.mk.injEq] at a;obtain⟨i,j,g,hsz,h⟩:=a;subst g;exact⟨he,λw=>by simp[sizeOf,typeInfo,j,hsz]⟩
 ·cases a
theorem oK{α:Type} [Gd α] [Tid α]{t e n b m:Nat}{x y:Operand}{v:Value}{l:List α}{z:Int}(h:AT P t=some (e,n,b))(i:o.op= .slice t x none (some y) none)(j:ev L x=some v)(k:ev L y=some (.int .i64 z))(q:z=(m:Int))
  (r:∀w,St w0 H w->Gd.rd w [v] l) (hm:m<=l.length):C2 P N w0 H L o (slP v m):=by
 intro a w hf hs;obtain⟨a0,c,e,⟨hc,_⟩,_⟩:=r w hs;simp only[List.cons.injEq,and_true] at e;subst e;obtain⟨u,hsz⟩:=lJ h;subst q;unfold execOp;rw[i];have g:(0:Int)<=(m:Int)/\(m:Int)<=(c:Int):=by omega
 have s:(if c=0 then a0 else a0.map (·.add (0*n)))=a0:=by
  split
  ·rfl
  ·cases a0 with
   |none=>rfl
   |some ad=>simp[add_zero]
 simp[Instr.sliceAt,Instr.slice,run_underlying u,hf.ev j,hf.ev k,Instr.sliceBounds,Instr.sliceBound,asIntOf,hsz,slP,g,show m<=c from by omega];simpa using s
theorem lha{α:Type} [Gd α] [Tid α]{t n:Nat}{x:Operand}{v:Value}{l:List α}{j:Nat}{es:List Value}(k:Nat)(a:Gd.n α=n)(e:DV P t=some es.length)(g:o.op= .load t x)(h:ev L x=some (.pointer (some (GI v (j*n)))))
  (hk:H[k]?=some (hl v l j es)):C2 P N w0 H L o (.agg es.toArray):=hJ e g h (λ_ i=>zG a i hk)
theorem oL{β:Type}{l:List β}{i:Nat}{x:β}(h:l[i]?=some x):l.set i x=l:=by
 apply List.ext_getElem?
 intro j;rw[List.getElem?_set]
 split
 ·rename_i e;subst e;rw[if_pos (lS h),h]
 ·rfl
theorem TK{α:Type} [Gd α] [Tid α]{wb:World}{t n b g2 c:Nat}{s x:Operand}{v z:Value}{l:List α}{y:α}{r:List Value}(u:AT P t=some (Tid.id α,n,b))(hz:BV P (Tid.id α)=some z)(i:z.cells.size=n)(e:0<n)(j:Gd.n α=n)
  (ho:o.op= .call ⟨.builtin .append, #[s,x], #[t,t]⟩) (q:ev L s=some v) (hx:ev L x=some (.slice (some ⟨g2,0,none⟩) 1 c)) (hd:o.dst=some d) (hN:Nat.blt d N=true)
  (g:(l.length+1)*b<=140737488355328) (h:l.length+1<=9223372036854775807)
  (k:∀v',D N w0 (oz wb v' (l++ [y])::H) ((d,v')::L) K):D N w0 (oz wb v l::oe wb r y::bx g2 r::H) L (λa w=>o.wp P a w K Q):=
 GZ (α:=Z wb α) u hz i e j ho q hx hd hN g h k
theorem MZ{α:Type} [Gd α] [Tid α](wb:World){t n b:Nat}(e:AT P t=some (Tid.id α,n,b))(g:o.op= .buildSlice t 0 #[])(hd:o.dst=some d)(h:Nat.blt d N=true)
  (k:∀v,D N w0 (oz wb v ([]:List α)::H) ((d,v)::L) K):D N w0 H L (λa w=>o.wp P a w K Q):=FL (α:=Z wb α) e g hd h k
theorem A1N{α:Type} [Gd α] [Tid α]{wb:World}{t:TypeId}{x:Operand}{v:Value}{l:List α}{a:Nat × Nat × Nat}(k:Nat)(e:AT P t=some a)(g:o.op= .call ⟨.builtin .len, #[x], #[t]⟩)(h:ev L x=some v)
  (hk:H[k]?=some (oz wb v l)):C2 P N w0 H L o (.int .i64 (l.length:Int)):=B7 (α:=Z wb α) k e g h hk
theorem DZ{α:Type} [Gd α] [Tid α]{wb:World}{v:Value}{l a:List α}(i:Nat)(hk:H[i]?=some (oz wb v l))(e:l=a)(k:D N w0 (H.set i (oz wb v a)) L K):D N w0 H L K:=A3 (α:=List (Z wb α)) i hk e k
theorem soZ{α:Type} [Gd α] [Tid α]{wb:World}{t n:Nat}{x y:Operand}{v h:Value}{l:List α}{j:Nat}{z:α}{i:List Value}(e:Gd.n α=n)(k:CS P t=some n)(q:o.op= .store t x y)(s:ev L x=some (.pointer (some (GI v (j*n)))))(u:ev L y=some h)(g:h.cells=i.toArray)(hd:o.dst=none)
  (hj:j<l.length) (r:D N w0 (oz wb v (l.set j z)::H) L K):D N w0 (oz wb v l::oe wb i z::H) L (λa w=>o.wp P a w K Q):=soG (α:=Z wb α) e k q s u g hd hj r
theorem vO{α:Type} [Gd α] [Tid α]{wb:World}{v:Value}{l:List α}{i:Nat}{x:α}(h:l[i]?=some x)(k:∀es,Gd.rd wb es x->D N w0 (ozh wb v l i es::H) L K):D N w0 (oz wb v l::H) L K:=
 K8 (α:=Z wb α) h λes a w j g=>by
  obtain⟨fp,e,_⟩:=g.at (k:=0) rfl;exact k es e.1 a w j g.tail
theorem A1O{α:Type} [Gd α] [Tid α]{wb:World}{v:Value}{l:List α}{i:Nat}{x:α}{es:List Value}(h:Gd.rd wb es x)(k:D N w0 (oz wb v (l.set i x)::H) L K):D N w0 (ozh wb v l i es::H) L K:=
 ML h (OM (α:=Z wb α) k)
theorem YQ{α:Type} [Gd α] [Tid α]{wb:World}{v:Value}{l:List α}{i:Nat}{x:α}{es:List Value}(a:l[i]?=some x)(h:Gd.rd wb es x)(k:D N w0 (oz wb v l::H) L K):D N w0 (ozh wb v l i es::H) L K:=
 A1O h (by rw[oL a];exact k)
theorem zJ{α:Type} [Gd α] [Tid α]{wb:World}{t:TypeId}{e n b:Nat}{x i:Operand}{v:Value}{l:List α}{j:Nat}{es:List Value}{z:Int}(k:Nat)(a:AT P t=some (e,n,b))(g:o.op= .indexAddr t x i)(h:ev L x=some v)(q:ev L i=some (.int .i64 z))
  (hk:H[k]?=some (ozh wb v l j es)) (r:z=(j:Int)):C2 P N w0 H L o (.pointer (some (GI v (j*n)))):=EL (α:=Z wb α) k a g h q hk r
theorem lza{α:Type} [Gd α] [Tid α]{wb:World}{t n:Nat}{x:Operand}{v:Value}{l:List α}{j:Nat}{es:List Value}(k:Nat)(a:Gd.n α=n)(e:DV P t=some es.length)(g:o.op= .load t x)(h:ev L x=some (.pointer (some (GI v (j*n)))))
  (hk:H[k]?=some (ozh wb v l j es)):C2 P N w0 H L o (.agg es.toArray):=lha (α:=Z wb α) k a e g h hk
end
end Go.Sy
namespace Go.Sy
open Go Go.RowKit
def sB(s:ByteArray)(k:Nat):Int:=((s.data[k]?).getD 0).toNat
section
variable {P:Program} {N:Nat} {w0:World} {H:List Chunk} {L:Fm} {o:Oper}
theorem FZ{t:TypeId}{x:Operand}{s:ByteArray}(e:P.underlying t=some .string)(g:o.op= .call ⟨.builtin .len, #[x], #[t]⟩)(h:ev L x=some (.string s)):C2 P N w0 H L o (.int .i64 (s.size:Int)):=by
 intro a w hf _;unfold execOp;rw[g];simp[resolve,invoke,builtin,Builtin.len_,hf.ev h,run_underlying e,goInt]
theorem HL{t:TypeId}{x i:Operand}{s:ByteArray}{j:Nat}{z:Int}(g:P.underlying t=some .string)(h:o.op= .index t x i)(k:ev L x=some (.string s))(l:ev L i=some (.int .i64 z))(q:z=(j:Int))(e:j<s.size):C2 P N w0 H L o (.int .u8 (sB s j)):=by
 intro a w hf _;subst q;have h1:s[j]?=some (s[j]'e):=getElem?_pos s j e;have r:sB s j=((s[j]'e).toNat:Int):=by
  unfold sB;have:s.data[j]?=some (s[j]'e):=by
   rw[Array.getElem?_eq_getElem e];rfl
  rw[this];rfl
 unfold execOp;rw[h];simp[Instr.index,asIntOf,hf.ev k,hf.ev l,run_underlying g,h1,r]
theorem TL(a b:ByteArray):(a.toList==b.toList)=decide (a=b):=by
 rw[Bool.eq_iff_iff];simp only[beq_iff_eq,decide_eq_true_eq]
 constructor
 ·intro h;have h1:a.toList=a.data.toList:=ByteArray.toList_eq a;have e:b.toList=b.data.toList:=ByteArray.toList_eq b;rw[h1,e] at h
  cases a;cases b
  simp only at h
  congr 1
  exact Array.toList_inj.1 h
 ·intro h;rw[h]
theorem DO{t e:TypeId}{x y:Operand}{m n:ByteArray}(g:o.op= .binOp .eql t x y e)(h:ev L x=some (.string m))(i:ev L y=some (.string n)):C2 P N w0 H L o (.bool (decide (m=n))):=by
 intro a w hf _;unfold execOp;rw[g];simp only[hf.ev h,hf.ev i];simp[eqGuard,binOp,Op.stringOp,TL]
theorem E5{t e:TypeId}{x y:Operand}{m n:ByteArray}(g:o.op= .binOp .neq t x y e)(h:ev L x=some (.string m))(i:ev L y=some (.string n)):C2 P N w0 H L o (.bool (!(decide (m=n)))):=by
 intro a w hf _;unfold execOp;rw[g];simp only[hf.ev h,hf.ev i];simp[eqGuard,binOp,Op.stringOp,TL]
theorem oM(s:ByteArray)(k:Nat):0<=sB s k/\sB s k<=255:=by
 unfold sB;have:=((s.data[k]?).getD 0).toNat_lt;omega
theorem oN{t g:TypeId}{x:Operand}{s:ByteArray}{k:Nat}(h:P.underlying g=some (.int .i64))(e:∃u,P.underlying t=some u)(i:o.op= .convert t g x)(j:ev L x=some (.int .u8 (sB s k))):C2 P N w0 H L o (.int .i64 (sB s k)):=by
 intro a w hf _;obtain⟨u,e⟩:=e;have l:=oM s k;unfold execOp;rw[i];simp[convert,hf.ev j,run_underlying h,run_underlying e,Conv.intToInt,IntWalk.i64_in _ (show-9223372036854775808<=sB s k/\sB s k<=9223372036854775807 by omega)]
theorem Q1{w:World}{p:Addr}{es a:List Value}{f n:Nat}(h:LN w p es)(e:(es.drop f).take n=a):LN w (p.add f) a:=by
 subst e;intro j u hu;rw[List.getElem?_take] at hu
 split at hu
 ·rw[List.getElem?_drop] at hu;rw[add_add];exact h (f+j) u hu
 ·cases hu
end
end Go.Sy
namespace Go.Sy
open Go Go.RowKit
theorem fill_flat:∀(vs:List Value) (pre tail:List Value),tail.length=vs.length->(∀v∈vs,v.cells= #[v])->
  Instr.fill (λi=>some (i*1,1)) (pre++tail).toArray ((vs.zipIdx pre.length).map (λp=>(p.2,p.1)))=some (pre++vs).toArray
 | [],pre,[],_,_=>by simp[Instr.fill]
 | [],pre,_::_,h,_=>by simp at h
 |v::vs,pre,[],h,_=>by simp at h
 | v::vs,pre,t::tail,h,hc=>by
  have j:=hc v (by simp);have a:=fill_flat vs (pre++ [v]) tail (by simpa using h) (λu l=>hc u (by simp[l]));simp only[List.zipIdx_cons,List.map_cons,Instr.fill,j];have k:¬((decide ((#[v]:Array Value).size≠1)||decide (pre.length*1+(#[v]:Array Value).size>(pre++t::tail).toArray.size))=true):=by simp
  rw[if_neg k];have e:((#[v]:Array Value).zipIdx.foldl (λcs x=>cs.setIfInBounds (pre.length*1+x.2) x.1) (pre++t::tail).toArray)=((pre++ [v])++tail).toArray:=by
   simp
  have g:(pre++ [v]).length=pre.length+1:=by simp
  rw[g] at a;simp only[List.append_assoc,List.cons_append,List.nil_append] at a e;rw[<-a]
  congr 1
def JE(a b:ByteArray):Bool:=Op.bytesLess a.toList b.toList
section
variable {P:Program} {N:Nat} {w0:World} {H:List Chunk} {L:Fm} {Q:Exit->Act->World->Prop} {o:Oper} {d:Nat} {K:Act->World->Prop}
theorem vP{v:Value}(h:v.oneCell'=true):v.cells= #[v]:=by
 cases v<;>first|rfl|cases h
theorem oO{α:Type} [Fl α] [Tid α]{t b n:Nat}{xs:List Operand}{ys:List α}{z:Value}(r:AT P t=some (Tid.id α,1,b))(s:BV P (Tid.id α)=some z)(a3:z.cells.size=1)
  (ho:o.op= .buildSlice t n ((xs.zipIdx 0).map (λp=>(p.2,p.1))).toArray) (hx:evs L xs=some (ys.map Fl.enc)) (hn:ys.length=n) (a4:0<n) (a5:n<=1000) (hd:o.dst=some d) (hN:Nat.blt d N=true)
  (k:∀v,D N w0 (ov [v] ys::H) ((d,v)::L) K):D N w0 H L (λa w=>o.wp P a w K Q):=by
 unfold AT at r
 split at r
 ·rename_i e' he;simp only[Option.map_eq_some_iff,Prod.mk.injEq] at r;obtain⟨i,hi,e1,hsz,a6⟩:=r;subst e1;unfold BV at s;rw[hi] at s;simp only[Option.bind_some] at s;refine KQ hd hN (λa w hf hs=>⟨.slice (some ⟨w.heap.size,0,none⟩) n n,w.alloc (.cells (ys.map Fl.enc).toArray (Tid.id α)),?_,λa' a1=>k _ a' _ a1
   (hs.push (fp:=[w.heap.size]) (Ex.alloc w _) (c:=ov [.slice (some ⟨w.heap.size,0,none⟩) n n] ys) ?_ (by simp) (λg hg=>by simp only[List.mem_singleton] at hg;subst hg;simp))⟩)
  ·have a2:=hf.evs hx;have h:((((xs.zipIdx 0).map (λp=>(p.2,p.1))).toArray.map λ(p:Nat × Operand)=>(p.1,a.eval p.2))).toList=((ys.map Fl.enc).zipIdx 0).map (λp=>(p.2,p.1)):=by
    rw[<-a2];simp only[List.map_toArray,List.map_map]
    apply List.ext_getElem?
    intro q;simp only[List.getElem?_map,List.getElem?_zipIdx]
    cases xs[q]?<;>simp
   have e:∀v∈ys.map (Fl.enc (α:=α)),v.cells= #[v]:=λv hv=>by
    obtain⟨y,_,rfl⟩:=List.mem_map.1 hv;exact vP (Fl.one y)
   have j:((Array.range (n*1)).map (z.cells[·%z.cells.size]!))=([]++((List.range n).map (z.cells[·%z.cells.size]!))).toArray:=by
    simp[Array.toList_range,<-Array.toList_inj]
   have a0:=fill_flat (ys.map Fl.enc) [] ((List.range n).map (z.cells[·%z.cells.size]!)) (by simp[hn]) e;have hb:=run_buildSlice (P:=P) w t (Tid.id α) n (((xs.zipIdx 0).map (λp=>(p.2,p.1))).toArray.map λ(p:Nat × Operand)=>(p.1,a.eval p.2)) (ys.map Fl.enc).toArray i z he hi s (by rw[hsz];omega) (by rw[hsz];omega) (by
    rw[h,hsz,j];simpa using a0)
   unfold execOp;rw[ho];simp only;rw[Sem.run_bind,hb];rfl
  ·rw[<-hn];refine YK (l:=ys) (cap:=ys.length) (heap_alloc_new w _) (by simp) (by simp[maxLen];omega) (by simp) (λi u hu=>?_);simp[hu]
 ·cases r
theorem aQ{t e:TypeId}{x y:Operand}{m n:ByteArray}(g:o.op= .binOp .add t x y e)(h:ev L x=some (.string m))(i:ev L y=some (.string n))(hl:m.size+n.size<=9223372036854775807):C2 P N w0 H L o (.string (m++n)):=by
 intro a w hf _;unfold execOp;rw[g];simp only[hf.ev h,hf.ev i];have j:¬((m.size:Int)+(n.size:Int)>IntKind.i64.max):=by
  have:IntKind.i64.max=9223372036854775807:=rfl;omega
 simp[eqGuard,binOp,Op.stringOp];omega
theorem A3A{t e:TypeId}{x y:Operand}{m n:ByteArray}(g:o.op= .binOp .lss t x y e)(h:ev L x=some (.string m))(i:ev L y=some (.string n)):C2 P N w0 H L o (.bool (JE m n)):=by
 intro a w hf _;unfold execOp;rw[g];simp only[hf.ev h,hf.ev i];simp[eqGuard,binOp,Op.stringOp,JE]
theorem oP{t e:TypeId}{x y:Operand}{m n:ByteArray}(g:o.op= .binOp .geq t x y e)(h:ev L x=some (.string m))(i:ev L y=some (.string n)):C2 P N w0 H L o (.bool (!(JE m n))):=by
 intro a w hf _;unfold execOp;rw[g];simp only[hf.ev h,hf.ev i];simp[eqGuard,binOp,Op.stringOp,JE]
theorem oQ{t e:TypeId}{x y:Operand}{m n:ByteArray}(g:o.op= .binOp .gtr t x y e)(h:ev L x=some (.string m))(i:ev L y=some (.string n)):C2 P N w0 H L o (.bool (!(JE m n||decide (m=n)))):=by
 intro a w hf _;unfold execOp;rw[g];simp only[hf.ev h,hf.ev i];simp[eqGuard,binOp,Op.stringOp,JE,TL]
theorem A3B{t:TypeId}{x:Operand}{m r:Int}(e:o.op= .unOp .neg t x)(g:ev L x=some (.int .i64 m))(h: -m=r)(i: -9223372036854775808<=r/\r<=9223372036854775807):C2 P N w0 H L o (.int .i64 r):=by
 intro a w hf _;subst h;unfold execOp;rw[e];simp[hf.ev g,Op.unary,Op.intArith,IntWalk.i64_in _ i]
theorem oS{t h:TypeId}{x y:Operand}{m n:Int}(i:o.op= .binOp .quo t x y h)(j:ev L x=some (.int .i64 m))(k:ev L y=some (.int .i64 n))(h0:0<=m/\m<=9223372036854775807)(r:1<=n):C2 P N w0 H L o (.int .i64 (m/n)):=by
 intro a w hf _;have g:¬n=0:=by omega
 have e:m.tdiv n=m/n:=Int.tdiv_eq_ediv_of_nonneg h0.1;have l:m/n<=m:=Int.ediv_le_self _ h0.1;have q:0<=m/n:=Int.ediv_nonneg h0.1 (by omega);unfold execOp;rw[i];simp[hf.ev j,hf.ev k,eqGuard,binOp,Op.intDiv,g,e,IntWalk.i64_in _ (show-9223372036854775808<=m/n/\m/n<=9223372036854775807 by omega)]
theorem oT{t h:TypeId}{x:Operand}{m:Int}(i:P.underlying h=some (.int .u8))(g:∃u,P.underlying t=some u)(j:o.op= .convert t h x)(k:ev L x=some (.int .i64 m))(q:0<=m/\m<=255):C2 P N w0 H L o (.int .u8 m):=by
 intro a w hf _;obtain⟨u,g⟩:=g;have e:IntKind.u8.wrap m=m:=by
  have h1:IntKind.u8.bits=8:=rfl;have l:IntKind.u8.signed=false:=rfl;simp only[IntKind.wrap,h1,l];simp;omega
 unfold execOp;rw[j];simp[convert,hf.ev k,run_underlying i,run_underlying g,Conv.intToInt,e]
theorem fG{t i e g:Nat}{x:Operand}{m:Int}(k:Nat)(h:P.underlying t=some (.slice e))(l:P.underlying e=some (.int .u8))(q:P.underlying i=some .string)(r:o.op= .convert t i x)(s:ev L x=some (.slice (some ⟨g,0,none⟩) 1 1))
  (hk:H[k]?=some (bx g [.int .u8 m])):C2 P N w0 H L o (.string ⟨#[UInt8.ofNat m.toNat]⟩):=by
 intro a w hf hs;have hl:=run_loadCells_list (P:=P) w ⟨g,0,none⟩ [.int .u8 m] (λj u v=>by rw[E9,Nat.zero_add];exact JU hk v w hs);simp only[List.length_singleton] at hl;unfold execOp;rw[r];simp only[hf.ev s];simp[convert,run_underlying h,run_underlying l,run_underlying q,Conv.bytesToString,hl];rfl
theorem oU{t:TypeId}{x y:Operand}{s:ByteArray}{k:Nat}{z:Int}(e:P.underlying t=some .string)(g:o.op= .slice t x (some y) none none)(h:ev L x=some (.string s))(i:ev L y=some (.int .i64 z))(j:z=(k:Int))(hk:k<=s.size):C2 P N w0 H L o (.string (s.extract k s.size)):=by
 intro a w hf _;subst j;unfold execOp;rw[g];have l:(0:Int)<=(k:Int)/\(k:Int)<=((s.size:Nat):Int):=by omega
 simp[Instr.sliceAt,Instr.slice,run_underlying e,hf.ev h,hf.ev i,Instr.sliceBounds,Instr.sliceBound,asIntOf,l,hk]
end
end Go.Sy
namespace Go.Sy
open Go Go.RowKit
section
variable {P:Program} {N:Nat} {w0:World} {H:List Chunk} {L:Fm} {Q:Exit->Act->World->Prop} {o:Oper} {d:Nat} {K:Act->World->Prop}
end
end Go.Sy
namespace Go.Sy
open Go Go.RowKit
inductive Lv where
  |val (v:Value)
  |rd (p:Value->World->Prop) (ext:∀v w w',p v w->Ex w w'->p v w')
def Lv.p:Lv->Value->World->Prop
 | .val u,v,_=>v=u
 | .rd p _,v,w=>p v w
theorem Lv.ext:∀{l:Lv} {v:Value} {w w':World},l.p v w->Ex w w'->l.p v w'
 | .val _,_,_,_,h,_=>h
 | .rd _ e,_,_,_,h,x=>e _ _ _ h x
def Lv.of{α:Type} [Gd α](g:List Value->Value)(x:α):Lv:= .rd (λv w=>∃cs,v=g cs/\Gd.rd w cs x) λ_ _ _ ⟨cs,h1,h2⟩ e=>⟨cs,h1,Gd.rd_ext e h2⟩
structure Fop where
  i:Nat
  d:Nat
  es:List Nat
  lv:Lv
def hY:List Fop->Nat->Option Fop
 | [],_=>none
 |c::cs,e=>bif Nat.beq c.i e then some c else hY cs e
def dAt(cs:List Fop)(e:Nat):Nat:=match hY cs e with|some c=>c.d|none=>0
def lAt(cs:List Fop)(e:Nat):Lv:=match hY cs e with|some c=>c.lv|none=> .val undef
section
variable {P:Program} {ops:Array Oper} {N:Nat} {w0:World} {H:List Chunk} {L:Fm} {Q:Exit->Act->World->Prop}
def lK(P:Program)(N:Nat)(wb:World)(o:Oper)(c:Fop)(Q:Exit->Act->World->Prop)(cs:List Fop):List Nat->Fm->Prop
 | [],L=>D N wb [] L (λa w=>o.wp P a w (λa' w'=>a'.defers=[]/\Ex wb w'/\c.lv.p (a'.tmps.getD c.d undef) w') Q)
 |e::es,L=>∀v,(lAt cs e).p v wb->lK P N wb o c Q cs es ((dAt cs e,v)::L)
def vQ(P:Program)(ops:Array Oper)(N:Nat)(w0:World)(H:List Chunk)(L:Fm)(Q:Exit->Act->World->Prop)(cs0:List Fop):List Fop->Prop
 | []=>True
 |c::cs=>(∃o,ops[c.i]?=some o/\∀wb,St w0 H wb->lK P N wb o c Q cs0 c.es L)/\vQ P ops N w0 H L Q cs0 cs
theorem vQ.mem{a:List Fop}:∀{cs:List Fop},vQ P ops N w0 H L Q a cs->∀c∈cs,∃o,ops[c.i]?=some o/\∀wb,St w0 H wb->lK P N wb o c Q a c.es L
 | _::_,h,c,e=>by
  rcases List.mem_cons.1 e with rfl|e
  ·exact h.1
  ·exact vQ.mem h.2 c e
theorem Fits.add{a:Act}(h:Fits a N L)(d:Nat):Fits a N ((d,a.tmps.getD d undef)::L):=⟨h.dfr,h.size,λi v e=>by
 simp only[look] at e
 cases hb:Nat.beq d i with
 | true=>
  rw[hb] at e;simp only[cond_true,Option.some.injEq] at e;rw[<-Nat.eq_of_beq_eq_true hb];exact e
 | false=>
  rw[hb] at e;exact h.at_ i v e⟩
theorem lK.run{wb:World}{o:Oper}{c:Fop}{cs:List Fop}{a:Act}:∀{es:List Nat} {L:Fm},lK P N wb o c Q cs es L->Fits a N L->(∀e∈es,(lAt cs e).p (a.tmps.getD (dAt cs e) undef) wb)->
  o.wp P a wb (λg w'=>g.defers=[]/\Ex wb w'/\c.lv.p (g.tmps.getD c.d undef) w') Q
 | [],_,h,hf,_=>h a wb hf (St.start wb)
 |e::_,_,h,hf,he=>lK.run (h _ (he e (List.mem_cons_self ..))) (hf.add _) (λx i=>he x (List.mem_cons_of_mem _ i))
structure FopOk (N:Nat) (ops:Array Oper) (listed:Array Bool) (ls:List Nat) (cs:List Fop) (c:Fop) (o:Oper):Prop where
  dst:o.dst=some c.d
  gd:o.guard=none
  aft:∀e∈o.after,Region.binds .any e=true->listed.getD e.on false=true\/(e.on<c.i/\∃x∈cs,x.i=e.on)
  es:∀e∈c.es,(∃x∈cs,hY cs e=some x/\x.i=e)/\e∈nX ops c.i
  lt:Nat.blt c.d N=true
  un:listed.getD c.i true=false
  ls:c.d∉ls
theorem unl{listed:Array Bool}{j:Nat}(h0:listed.getD j true=false):listed.getD j false=false:=by
 rcases Nat.lt_or_ge j listed.size with a|a
 ·simp[a] at h0⊢;exact h0
 ·simp[Array.getElem?_eq_none a] at h0
end
end Go.Sy
namespace Go.Sy
open Go Go.RowKit
section
variable {P:Program} {N:Nat} {w0:World} {H:List Chunk} {L:Fm} {ops:Array Oper} {Q:Exit->Act->World->Prop} {o o2:Oper} {rest:List Oper} {d d2:Nat} {K:Act->World->Prop}
theorem lL(h:ntp N ops L o=some d):gd ops L o=some false/\o.dst=some d/\Nat.blt d N=true:=by
 unfold ntp at h
 split at h
 ·rename_i d' h1 a
  cases hb:Nat.blt d' N with
  |false=>rw[hb] at h;cases h
  | true=>
   rw[hb] at h;simp only[cond_true,Option.some.injEq] at h;subst h;exact⟨h1,a,hb⟩
 ·cases h
theorem tN{z:List Nat}{n:Nat}{listed:Array Bool}(i:Nat)(e:ops[i]?=some o)(h:ntp N ops L o=some d)(k:D N w0 H ((d,undef)::L) (JG P ops Q w0 H z n (listed.setIfInBounds i true)))(hb:vJ ops listed i=true:=by kernel_rfl)(a:ziB ops z i=true:=by kernel_rfl):D N w0 H L (JG P ops Q w0 H z (n+1) listed):=by
 simp only[vJ,Bool.and_eq_true] at hb;obtain⟨h1,g,j⟩:=lL h;exact tn i e hb.1.1 hb.1.2 hb.2 h1 g j (λ_ l=>l) k a
theorem tR{z:List Nat}{n:Nat}{listed:Array Bool}(i:Nat){v:Value}(g:ops[i]?=some o)(h:lF N ops L o=some (d,v))(k:D N w0 H ((d,v)::L) (JG P ops Q w0 H z n (listed.setIfInBounds i true)))(hb:vJ ops listed i=true:=by kernel_rfl)(e:ziB ops z i=true:=by kernel_rfl):D N w0 H L (JG P ops Q w0 H z (n+1) listed):=by
 simp only[vJ,Bool.and_eq_true] at hb;unfold lF at h
 split at h
 ·rename_i d' v' h1 j l
  cases a:Nat.blt d' N with
  |false=>rw[a] at h;cases h
  | true=>
   rw[a] at h;simp only[cond_true,Option.some.injEq,Prod.mk.injEq] at h;obtain⟨q,r⟩:=h;subst q;subst r;exact tk i g hb.1.1 hb.1.2 hb.2 (by unfold nU;rw[h1,j];simp only[a,cond_true]) (λ_ s=>s) (rp l) k e
 ·cases h
theorem tW{g:List Chunk}{z:List Nat}{n:Nat}{listed:Array Bool}(i:Nat){v:Value}(j:ops[i]?=some o)(h:lF N ops L o=some (d,v))(l:z.contains i=true)(k:D N w0 H ((d,v)::L) (JG P ops Q w0 g z n (listed.setIfInBounds i true)))(e:Region.ready .any ops listed=[i]:=by kernel_rfl):D N w0 H L (JG P ops Q w0 g z (n+1) listed):=by
 unfold lF at h
 split at h
 ·rename_i d' v' h1 q r
  cases a:Nat.blt d' N with
  |false=>rw[a] at h;cases h
  | true=>
   rw[a] at h;simp only[cond_true,Option.some.injEq,Prod.mk.injEq] at h;obtain⟨s,t⟩:=h;subst s;subst t;exact ty i j h1 (sv q a (rp r) (tZ l k)) e
 ·cases h
theorem fl{t j off g i q u:Nat}{x a:Operand}{cs:List Value}{v:Value}(k:Nat)(h:AL P t j=some off)(hu:D9 P u=true)
  (e:(o.op,nU N ops L o,ev L x,i+off,o2.op,nU N ops ((d, .pointer (some ⟨g,q,none⟩))::L) o2,ev ((d, .pointer (some ⟨g,q,none⟩))::L) a,H[k]?,cs[q]?)=(.fieldAddr t x j,some d,some (.pointer (some ⟨g,i,none⟩)),q, .load u a,some d2,some (.pointer (some ⟨g,q,none⟩)),some (bx g cs),some v))
  (r:D N w0 H ((d2,v)::(d, .pointer (some ⟨g,q,none⟩))::L) (wpList P ops Q rest)):D N w0 H L (wpList P ops Q (o::o2::rest)):=by
 simp only[Prod.mk.injEq] at e;obtain⟨l,s,w,z,e5,e6,e7,e8,e9⟩:=e;exact q1 s (Db h l w z) (q1 e6 (lb k hu e5 e7 e8 e9) r)
theorem ad{t g:TypeId}{x y:Operand}{m n:Int}(r:Nat)(e:(o.op,nU N ops L o,ev L x,ev L y)=(.binOp .add t x y g,some d,some (.int .i64 m),some (.int .i64 n)))
  (k:D N w0 H ((d, .int .i64 (r:Int))::L) (wpList P ops Q rest)) (a:m+n=(r:Int)/\(r:Int)<=9223372036854775807:=by omega):D N w0 H L (wpList P ops Q (o::rest)):=by
 simp only[Prod.mk.injEq] at e;obtain⟨h,i,j,l⟩:=e;exact q1 i (DW h j l a.1 ⟨by omega,a.2⟩) k
theorem dl{t:TypeId}{x:Operand}{v:Value}{n:Nat}{g:Nat × Nat × Nat}(h:AT P t=some g)(e:(o.op,nU N ops L o,ev L x)=(.call ⟨.builtin .len, #[x], #[t]⟩,some d,some v))(i:∃a c,v= .slice a n c)
  (k:D N w0 H ((d, .int .i64 (n:Int))::L) (wpList P ops Q rest)):D N w0 H L (wpList P ops Q (o::rest)):=by
 simp only[Prod.mk.injEq] at e;obtain⟨j,l,q⟩:=e;exact q1 l (Dl h j q i) k
section
variable {f:Nat} {C4k:List Operand} {vs:List Value} {tys:Array TypeId}
theorem qv{v:Value}(hb:AA P f=true)(e:(o.op,gd ops L o,o.dst,Nat.blt d N,evs L C4k)=(.call ⟨.value (.func f),C4k.toArray,tys⟩,some true,some d,true,some vs))(hc:∀w,St w0 H w->Calls P f vs.toArray w (Val w v))
  (k:D N w0 H ((d,v)::L) (wpList P ops Q rest)):D N w0 H L (wpList P ops Q (o::rest)):=by
 simp only[Prod.mk.injEq] at e;obtain⟨a,g,h,i,j⟩:=e;exact li g (cv hb a j h i hc k)
theorem ql{α:Type} [Gd α] [Tid α]{l:List α}(hb:AA P f=true)(e:(o.op,gd ops L o,o.dst,Nat.blt d N,evs L C4k)=(.call ⟨.value (.func f),C4k.toArray,tys⟩,some true,some d,true,some vs))(hc:∀w,St w0 H w->Calls P f vs.toArray w (HH w l))
  (k:∀v,D N w0 (ov [v] l::H) ((d,v)::L) (wpList P ops Q rest)):D N w0 H L (wpList P ops Q (o::rest)):=by
 simp only[Prod.mk.injEq] at e;obtain⟨a,g,h,i,j⟩:=e;exact li g (YJ hb a j h i hc k)
theorem qs{α:Type} [Gd α]{x:α}(a:Gd.st α=true)(hb:AA P f=true)(e:(o.op,gd ops L o,o.dst,Nat.blt d N,evs L C4k)=(.call ⟨.value (.func f),C4k.toArray,tys⟩,some true,some d,true,some vs))(hc:∀w,St w0 H w->Calls P f vs.toArray w (HH w x))
  (k:∀cs,D N w0 (ov cs x::H) ((d, .agg cs.toArray)::L) (wpList P ops Q rest)):D N w0 H L (wpList P ops Q (o::rest)):=by
 simp only[Prod.mk.injEq] at e;obtain⟨g,h,i,j,l⟩:=e;exact li h (zE a hb g l i j hc k)
theorem qc2{α β:Type} [Gd α] [Gd β]{x:α}{y:β}(hb:AA P f=true)(e:(o.op,gd ops L o,o.dst,Nat.blt d N,evs L C4k)=(.call ⟨.value (.func f),C4k.toArray,tys⟩,some true,some d,true,some vs))(hc:∀w,St w0 H w->Calls P f vs.toArray w (O8 w x y))
  (k:∀c1 c2,D N w0 (ov c1 x::ov c2 y::H) ((d, .tuple #[Gd.vl α c1,Gd.vl β c2])::L) (wpList P ops Q rest)):D N w0 H L (wpList P ops Q (o::rest)):=by
 simp only[Prod.mk.injEq] at e;obtain⟨a,g,h,i,j⟩:=e;exact li g (cr2 hb a j h i hc k)
end
theorem cf2{f:Nat}{C4k:List Operand}{vs:List Value}{tys:Array TypeId}{α β:Type} [Fl α] [Fl β]{x:α}{y:β}{v:Value}(hb:AA P f=true)(g:o.op= .call ⟨.value (.func f),C4k.toArray,tys⟩)(h:evs L C4k=some vs)(hd:o.dst=some d)(i:Nat.blt d N=true)
  (hc:∀w,St w0 H w->Calls P f vs.toArray w (O8 w x y)) (j:Value.tuple #[Fl.enc x,Fl.enc y]=v) (k:D N w0 H ((d,v)::L) K):D N w0 H L (λa w=>o.wp P a w K Q):=
 cr2 hb g h hd i hc λc1 c2 a w q e=>by
  have h1:c1=[Fl.enc x]:=rO (k:=0) e rfl;have l:c2=[Fl.enc y]:=rO (k:=1) e rfl;subst h1;subst l;subst j;exact k a w q e.tail.tail
theorem lM{f:Nat}{C4k:List Operand}{vs:List Value}{tys:Array TypeId}{α β:Type} [Fl α] [Fl β]{x:α}{y:β}{v:Value}(hb:AA P f=true)(e:(o.op,gd ops L o,o.dst,Nat.blt d N,evs L C4k)=(.call ⟨.value (.func f),C4k.toArray,tys⟩,some true,some d,true,some vs))
  (hc:∀w,St w0 H w->Calls P f vs.toArray w (O8 w x y)) (a:Value.tuple #[Fl.enc x,Fl.enc y]=v) (k:D N w0 H ((d,v)::L) (wpList P ops Q rest)):D N w0 H L (wpList P ops Q (o::rest)):=by
 simp only[Prod.mk.injEq] at e;obtain⟨g,h,i,j,l⟩:=e;exact li h (cf2 hb g l i j hc a k)
theorem bX{t:TypeId}{x:Operand}{v:Value}{cs:List Value}(e:(o.op,gd ops L o,o.dst,Nat.blt d N,ev L x,v.cells)=(.box t x,some true,some d,true,some v,cs.toArray))
  (k:∀g,D N w0 (bx g cs::H) ((d, .pointer (some ⟨g,0,none⟩))::L) (wpList P ops Q rest)):D N w0 H L (wpList P ops Q (o::rest)):=by
 simp only[Prod.mk.injEq] at e;obtain⟨a,h,i,j,l,q⟩:=e;exact li h (A2y a l i j q k)
theorem aL{t:TypeId}{v:Value}{cs:List Value}(a:BV P t=some v)(e:(o.op,gd ops L o,o.dst,Nat.blt d N,v.cells)=(.alloc t,some true,some d,true,cs.toArray))
  (k:∀g,D N w0 (bx g cs::H) ((d, .pointer (some ⟨g,0,none⟩))::L) (wpList P ops Q rest)):D N w0 H L (wpList P ops Q (o::rest)):=by
 simp only[Prod.mk.injEq] at e;obtain⟨h,i,j,l,q⟩:=e;exact li i (vK a h j l q k)
def lN(N:Nat)(ops:Array Oper):Fm->List Nat->Option Fm
 |L,[]=>some L
 | L,i::is=>match ops[i]? with
  |none=>none
  | some o=>match lF N ops L o with
   |some (d,v)=>lN N ops ((d,v)::L) is
   | none=>match ntp N ops L o with
    |some d=>lN N ops ((d,undef)::L) is
    |none=>none
def mtk(ops:Array Oper):Array Bool->List Nat->Bool
 |_,[]=>true
 |listed,i::is=>vJ ops listed i&&mtk ops (listed.setIfInBounds i true) is
def A1P:Array Bool->List Nat->Array Bool
 |listed,[]=>listed
 |listed,i::is=>A1P (listed.setIfInBounds i true) is
theorem tM{z:List Nat}{e:Fm}{n:Nat}:∀(is:List Nat) {L:Fm} {listed:Array Bool},mtk ops listed is=true->(∀i∈is,ziB ops z i=true)->lN N ops L is=some e->D N w0 H e (JG P ops Q w0 H z n (A1P listed is))->D N w0 H L (JG P ops Q w0 H z (n+is.length) listed)
 | [],L,listed,_,_,h,k=>by
  simp only[lN,Option.some.injEq] at h;subst h;exact k
 | i::is,L,listed,hb,hz,h,k=>by
  simp only[mtk,Bool.and_eq_true] at hb;unfold lN at h
  split at h
  ·cases h
  ·rename_i o ho
   split at h
   ·rename_i d v hs;exact tR i ho hs (tM is hb.2 (λj a=>hz j (List.mem_cons_of_mem _ a)) h k) hb.1 (hz i (List.mem_cons_self ..))
   ·split at h
    ·rename_i d hn;exact tN i ho hn (tM is hb.2 (λj a=>hz j (List.mem_cons_of_mem _ a)) h k) hb.1 (hz i (List.mem_cons_self ..))
    ·cases h
theorem tK{z:List Nat}{g:Fm}(n:Nat){m:Nat}(a:List Nat){listed h:Array Bool}(e:(m,lN N ops L a,A1P listed a)=(n+a.length,some g,h))(k:D N w0 H g (JG P ops Q w0 H z n h))(hb:mtk ops listed a=true:=by kernel_rfl)(j:a.all (λi=>ziB ops z i)=true:=by kernel_rfl):D N w0 H L (JG P ops Q w0 H z m listed):=by
 simp only[Prod.mk.injEq] at e;obtain⟨rfl,l,rfl⟩:=e;exact tM a hb (λi q=>List.all_eq_true.1 j i q) l k
end
section
variable {P:Program} {N:Nat} {w0:World} {H:List Chunk} {L:Fm} {ops:Array Oper} {Q:Exit->Act->World->Prop} {K:Act->World->Prop}
section
variable {c:Operand} {x y:Code} {p:Prop} {b:Bool} {m n:Int}
theorem Cd [Decidable p](hc:ev L c=some (.bool (decide p)))(a:p->D N w0 H L (x.wp P Q))(e:¬p->D N w0 H L (y.wp P Q)):D N w0 H L ((Code.cond c x y).wp P Q):=Ci _ hc (λh=>a (_root_.of_decide_eq_true h)) (λh=>e (_root_.of_decide_eq_false h))
theorem R8 [Decidable p](hc:ev L c=some (.bool (!(decide p))))(a:¬p->D N w0 H L (x.wp P Q))(e:p->D N w0 H L (y.wp P Q)):D N w0 H L ((Code.cond c x y).wp P Q):=Ci _ hc (λh=>a (odF (hM h))) (λh=>e (odT (hP h)))
theorem Ce(hc:ev L c=some (.bool (m==n)))(a:m=n->D N w0 H L (x.wp P Q))(e:m≠n->D N w0 H L (y.wp P Q)):D N w0 H L ((Code.cond c x y).wp P Q):=Ci _ hc (λh=>a (eq_of_beq h)) (λh=>e (JH h))
theorem Cn(hc:ev L c=some (.bool (m !=n)))(a:m≠n->D N w0 H L (x.wp P Q))(e:m=n->D N w0 H L (y.wp P Q)):D N w0 H L ((Code.cond c x y).wp P Q):=Ci _ hc (λh=>a (bne_iff_ne.1 h)) (λh=>e (R5 h))
theorem CN(hc:ev L c=some (.bool (!b)))(a:b=false->D N w0 H L (x.wp P Q))(e:b=true->D N w0 H L (y.wp P Q)):D N w0 H L ((Code.cond c x y).wp P Q):=Ci _ hc (λh=>a (hM h)) (λh=>e (hP h))
theorem EY [Decidable p](i:Nat)(h:look L i=some (.bool (decide p)))(a:Nat.blt i N=true)(e:p->D N w0 H ((i, .bool true)::L) K)(g:¬p->D N w0 H ((i, .bool false)::L) K):D N w0 H L K:=gs i h a (λh=>e (_root_.of_decide_eq_true h)) (λh=>g (_root_.of_decide_eq_false h))
theorem A3C [Decidable p](i:Nat)(h:look L i=some (.bool (!(decide p))))(a:Nat.blt i N=true)(e:¬p->D N w0 H ((i, .bool true)::L) K)(g:p->D N w0 H ((i, .bool false)::L) K):D N w0 H L K:=gs i h a (λh=>e (odF (hM h))) (λh=>g (odT (hP h)))
theorem oV(i:Nat)(h:look L i=some (.bool (m==n)))(a:Nat.blt i N=true)(e:m=n->D N w0 H ((i, .bool true)::L) K)(g:m≠n->D N w0 H ((i, .bool false)::L) K):D N w0 H L K:=gs i h a (λh=>e (eq_of_beq h)) (λh=>g (JH h))
theorem gxn(i:Nat)(h:look L i=some (.bool (m !=n)))(a:Nat.blt i N=true)(e:m≠n->D N w0 H ((i, .bool true)::L) K)(g:m=n->D N w0 H ((i, .bool false)::L) K):D N w0 H L K:=gs i h a (λh=>e (bne_iff_ne.1 h)) (λh=>g (R5 h))
theorem JQ(i:Nat)(h:look L i=some (.bool (!b)))(a:Nat.blt i N=true)(e:b=false->D N w0 H ((i, .bool true)::L) K)(g:b=true->D N w0 H ((i, .bool false)::L) K):D N w0 H L K:=gs i h a (λh=>e (hM h)) (λh=>g (hP h))
end
end
end Go.Sy
namespace Go.Sy
open Go Go.RowKit
section
variable {P:Program} {N:Nat} {w0:World} {H:List Chunk} {L:Fm} {Q:Exit->Act->World->Prop} {o:Oper} {d:Nat} {K:Act->World->Prop}
theorem B2h{α:Type} [Gd α] [Tid α]{w:World}{v:Value}{l:List α}{fp:List Nat}(h:Gd.ow w [v] l fp):∃a c,v= .slice a l.length c/\l.length<=c/\(∀ad,a=some ad->∃g,ad=⟨g,0,none⟩)/\(c=0->l=[]):=by
 rcases h with ⟨h1,e,_⟩|⟨g,cap,cur,fps,h1,e,i,_⟩
 ·simp only[List.cons.injEq,and_true] at h1;subst h1;subst e;exact⟨none,0,rfl,by simp,(λ_ h=>by cases h),λ_=>rfl⟩
 ·simp only[List.cons.injEq,and_true] at h1;subst h1;refine⟨_,cap,rfl,i,λad h=>⟨g,(Option.some.inj h).symm⟩,λh0=>?_⟩;subst h0;exact List.eq_nil_of_length_eq_zero (by omega)
theorem B8b{α:Type} [Gd α] [Tid α]{t e n b m:Nat}{x y:Operand}{v:Value}{l:List α}{z:Int}(k:Nat)(i:AT P t=some (e,n,b))(j:o.op= .slice t x none (some y) none)(q:ev L x=some v)(r:ev L y=some (.int .i64 z))(s:z=(m:Int))
  (hk:H[k]?=some (ov [v] l)) (hm:m<=l.length):C2 P N w0 H L o (slP v m):=by
 intro a w hf hs;obtain⟨fp,h,_⟩:=hs.at hk;obtain⟨a0,c,rfl,hc,a1,_⟩:=B2h (α:=α) h;obtain⟨hu,hsz⟩:=lJ i;subst s;unfold execOp;rw[j];have g:(0:Int)<=(m:Int)/\(m:Int)<=(c:Int):=by omega
 have u:(if c=0 then a0 else a0.map (·.add (0*n)))=a0:=by
  split
  ·rfl
  ·cases a0 with
   |none=>rfl
   |some ad=>simp[add_zero]
 simp[Instr.sliceAt,Instr.slice,run_underlying hu,hf.ev q,hf.ev r,Instr.sliceBounds,Instr.sliceBound,asIntOf,hsz,slP,g,show m<=c from by omega];simpa using u
theorem C0G{α:Type} [Gd α] [Tid α]{w:World}{v:Value}{l:List α}{fp:List Nat}{m:Nat}(h:Gd.ow w [v] l fp)(k:m<=l.length):∃fp',Gd.ow w [slP v m] (l.take m) fp'/\List.Sublist fp' fp:=by
 rcases h with ⟨h1,e,q⟩|⟨g,cap,cur,fps,h1,e,q,r,s,t,u,z⟩
 ·simp only[List.cons.injEq,and_true] at h1;subst h1;subst e;subst q;have:m=0:=by simpa using k
  subst this;exact⟨[], .inl ⟨rfl,rfl,rfl⟩,List.Sublist.refl _⟩
 ·simp only[List.cons.injEq,and_true] at h1;subst h1;subst t;refine⟨g::(fps.take m).flatten, .inr ⟨g,cap,cur,fps.take m,?_,e,?_,r,s,rfl,?_,λi x f a j=>?_⟩,?_⟩
  ·simp[slP,k]
  ·simp;omega
  ·simp[u]
  ·rw[List.getElem?_take] at a j
   split at a
   ·rename_i hlt;rw[if_pos hlt] at j;exact z i x f a j
   ·cases a
  ·refine List.Sublist.cons_cons g ?_;have:fps.flatten=(fps.take m).flatten++(fps.drop m).flatten:=by rw[<-List.flatten_append,List.take_append_drop]
   rw[this];exact List.sublist_append_left _ _
theorem B8c{α:Type} [Gd α] [Tid α]{v:Value}{l:List α}{m:Nat}(s:m<=l.length)(k:D N w0 (ov [slP v m] (l.take m)::H) L K):D N w0 (ov [v] l::H) L K:=by
 intro a w hf hs;obtain⟨fp,j,u,t,i⟩:=hs.set (k:=0) rfl;obtain⟨q,h,e⟩:=C0G (α:=α) j s;exact k a w hf (i w (ov [slP v m] (l.take m)) q (Kb.of_ex (Ex.refl w)) h (u.sublist e) (λg r=>⟨.inl (e.subset r),(t g (e.subset r)).2⟩))
end
end Go.Sy
