/-
  A small symbolic calculus over the model: frames known slot by slot, memory known chunk by chunk, one lemma an operation.
  Conditions: none; nothing here speaks of a program of its own.
-/
import Derived.WalkKit
import Derived.Below
import Derived.OrdersHeld
import Derived.Deep.RegionHeld3
import Derived.Laws.OwnMore
import Derived.Maps.AppendAt
import Derived.KernelRfl
namespace Go.Sy
theorem odT{p:Prop} [Decidable p](h:decide p=true):p:=_root_.of_decide_eq_true h
theorem odF{p:Prop} [Decidable p](h:decide p=false):¬p:=_root_.of_decide_eq_false h
open Go Go.RowKit
theorem Y{α:Type}{a:α}:a=a:=rfl
abbrev iv(x:Int):Value:= .int .i64 x
abbrev nv(x:Nat):Value:= .int .i64 (x:Int)
abbrev pv(g:Nat):Value:= .pointer (some ⟨g,0,none⟩)
abbrev Fm:=List (Nat × Value)
def look:Fm->Nat->Option Value
 | [],_=>none
 |(j,v)::L,i=>cond (Nat.beq j i) (some v) (look L i)
structure Fits (a:Act) (N:Nat) (L:Fm):Prop where
  dfr:a.defers=[]
  size:a.tmps.size=N
  at_:∀i v,look L i=some v->a.tmps.getD i undef=v
theorem Fits.put{a:Act}{N:Nat}{L:Fm}(h:Fits a N L){d:Nat}(hd:Nat.blt d N=true)(v:Value):
  Fits (a.put (some d) v) N ((d,v)::L):=by
 have c:d<a.tmps.size:=by
  rw[h.size];exact Nat.le_of_ble_eq_true hd
 refine⟨h.dfr,by simp[Act.put,h.size],λi u b=>?_⟩;simp only[look] at b
 cases hb:Nat.beq d i with
 | true=>
  have e:d=i:=Nat.eq_of_beq_eq_true hb;subst e;rw[hb] at b;simp only[cond_true,Option.some.injEq] at b;subst b;simp[Act.put,c]
 | false=>
  have e:d≠i:=Nat.ne_of_beq_eq_false hb;rw[hb] at b;simp only[cond_false] at b;have:=h.at_ i u b;rw[<-this];simp[Act.put,Array.getElem?_setIfInBounds_ne e]
def lE:Fm->Fm->Prop
 | [],_=>True
 |(i,v)::L',L=>look L i=some v/\lE L' L
theorem WP{L:Fm}:∀{L':Fm},lE L' L->∀i v,look L' i=some v->look L i=some v
 | [],_,_,_,h=>by simp[look] at h
 | (j,u)::L',hs,i,v,h=>by
  simp only[look] at h
  cases hb:Nat.beq j i with
  | true=>
   rw[hb] at h;simp only[cond_true,Option.some.injEq] at h;have e:j=i:=Nat.eq_of_beq_eq_true hb;rw[<-h,<-e];exact hs.1
  | false=>
   rw[hb] at h;exact WP hs.2 i v h
theorem Fits.weak{a:Act}{N:Nat}{L b:Fm}(h:Fits a N L)(c:lE b L):Fits a N b:=
 ⟨h.dfr,h.size,λi v e=>h.at_ i v (WP c i v e)⟩
def aI:List Nat->Fm->Option Fm
 | [],_=>some []
 | i::ks,L=>match look L i,aI ks L with
  |some v,some r=>some ((i,v)::r)
  |_,_=>none
theorem WQ{L:Fm}:∀{ks:List Nat} {L':Fm},aI ks L=some L'->lE L' L
 | [],_,h=>by simp only[aI,Option.some.injEq] at h;subst h;trivial
 | i::ks,L',h=>by
  simp only[aI] at h
  split at h
  ·rename_i v r h1 a;simp only[Option.some.injEq] at h;subst h;exact⟨h1,WQ a⟩
  ·cases h
theorem aJ{L:Fm}:∀{L':Fm},L'.map (λp=>look L p.1)=L'.map (λp=>some p.2)->lE L' L
 | [],_=>trivial
 | (i,v)::L',h=>by
  simp only[List.map_cons,List.cons.injEq] at h;exact⟨h.1,aJ h.2⟩
theorem Fits.wk{a:Act}{N:Nat}{L b:Fm}(h:Fits a N L)(e:b.map (λp=>look L p.1)=b.map (λp=>some p.2)):Fits a N b:=h.weak (aJ e)
def ev(L:Fm):Operand->Option Value
 | .tmp t=>look L t
 | .const v=>some v
 | .global g=>some (.pointer (some ⟨g,0,none⟩))
 | .func f=>some (.func (.func f) #[] #[])
theorem Fits.ev{a:Act}{N:Nat}{L:Fm}(h:Fits a N L){x:Operand}{v:Value}(b:ev L x=some v):a.eval x=v:=by
 cases x with
 |tmp t=>exact h.at_ t v b
 |const u=>simpa [Sy.ev,Act.eval] using b
 |global g=>simpa [Sy.ev,Act.eval] using b
 |func f=>simpa [Sy.ev,Act.eval] using b
def evs(L:Fm):List Operand->Option (List Value)
 | []=>some []
 | x::xs=>match ev L x,evs L xs with
  |some v,some vs=>some (v::vs)
  |_,_=>none
theorem Fits.evs{a:Act}{N:Nat}{L:Fm}(h:Fits a N L):∀{xs:List Operand} {vs:List Value},evs L xs=some vs->xs.map a.eval=vs
 | [],vs,he=>by simpa [Sy.evs] using he
 | x::xs,vs,he=>by
  simp only[Sy.evs] at he
  split at he
  ·rename_i v ws h1 b;simp only[Option.some.injEq] at he;subst he;simp[h.ev h1,h.evs b]
  ·cases he
abbrev Ex(w w':World):Prop:=Below w.heap.size w w'
theorem Ex.refl(w:World):Ex w w:=Below.refl _ w
theorem Ex.trans{a b c:World}(h:Ex a b)(k:Ex b c):Ex a c:=Below.trans h (k.mono h.size)
theorem Ex.alloc(w:World)(o:Obj):Ex w (w.alloc o):=(Below.refl _ w).alloc (Nat.le_refl _) o
theorem Ex.drew(w:World):Ex w w.drew:=(Below.refl _ w).drew
structure Chunk where
  ok:World->List Nat->Prop
  loc:∀w w' fp,ok w fp->(∀g∈fp,w'.heap[g]?=w.heap[g]?)->ok w' fp
def Ows(w:World):List Chunk->List Nat->Prop
 | [],F=>F=[]
 |c::H,F=>∃fp F',F=fp++F'/\c.ok w fp/\Ows w H F'
theorem Ows.loc{w w':World}:∀{H:List Chunk} {F:List Nat},Ows w H F->(∀g∈F,w'.heap[g]?=w.heap[g]?)->Ows w' H F
 | [],_,h,_=>h
 | c::H,F,⟨fp,F',e,hc,hH⟩,hs=>by
  subst e;exact⟨fp,F',rfl,c.loc _ _ _ hc (λg a=>hs g (List.mem_append_left _ a)),Ows.loc hH (λg a=>hs g (List.mem_append_right _ a))⟩
theorem Ows.focus{w:World}{c:Chunk}:∀{H:List Chunk} {F:List Nat} {k:Nat},Ows w H F->H[k]?=some c->
  ∃f fp i,F=f++(fp++i)/\c.ok w fp/\
   ∀(w':World) (c':Chunk) (a:List Nat),(∀g∈f++i,w'.heap[g]?=w.heap[g]?)->c'.ok w' a->Ows w' (H.set k c') (f++(a++i))
 | [],_,_,_,h=>by simp at h
 | x::H,F,0,⟨fp,F',e,hc,hH⟩,h=>by
  simp only[List.getElem?_cons_zero,Option.some.injEq] at h;subst h;refine⟨[],fp,F',by simpa using e,hc,λw' c' a j m=>?_⟩;exact⟨a,F',by simp,m,Ows.loc hH (λg b=>j g (by simpa using b))⟩
 | x::H,F,k+1,⟨fp,F',e,hc,hH⟩,h=>by
  simp only[List.getElem?_cons_succ] at h;obtain⟨f,p,i,n,q,l⟩:=Ows.focus hH h;refine⟨fp++f,p,i,by rw[e,n,List.append_assoc],q,λw' c' a j m=>?_⟩;refine⟨fp,f++(a++i),by rw[List.append_assoc],x.loc _ _ _ hc (λg b=>j g (by simp[b])),l w' c' a (λg b=>j g ?_) m⟩
  rcases List.mem_append.1 b with b|b<;>simp[b]
structure St (w0:World) (H:List Chunk) (w:World):Prop where
  bel:Ex w0 w
  own:∃F,Ows w H F/\F.Nodup/\∀g∈F,w0.heap.size<=g/\g<w.heap.size
theorem St.start(w:World):St w [] w:=⟨Ex.refl w,[],rfl,List.nodup_nil,λ_ h=>by cases h⟩
theorem St.ext{w0 w w':World}{H:List Chunk}(h:St w0 H w)(e:Ex w w'):St w0 H w':=by
 obtain⟨F,c,f,b⟩:=h.own;exact⟨h.bel.trans e,F,c.loc (λg a=>e.block g (b g a).2),f,λg a=>⟨(b g a).1,Nat.lt_of_lt_of_le (b g a).2 e.size⟩⟩
theorem St.tail{w0 w:World}{c:Chunk}{H:List Chunk}(h:St w0 (c::H) w):St w0 H w:=by
 obtain⟨F,⟨fp,a,e,j,hH⟩,i,b⟩:=h.own;subst e;exact⟨h.bel,a,hH,(List.nodup_append.1 i).2.1,λg f=>b g (List.mem_append_right _ f)⟩
theorem St.push{w0 w w':World}{c:Chunk}{H:List Chunk}{fp:List Nat}(h:St w0 H w)(e:Ex w w')(hc:c.ok w' fp)(n:fp.Nodup)
  (hb:∀g∈fp,w.heap.size<=g/\g<w'.heap.size):St w0 (c::H) w':=by
 obtain⟨F,s,r,q⟩:=(h.ext e).own;obtain⟨m,j,k,f⟩:=h.own;refine⟨h.bel.trans e,fp++m,⟨fp,m,rfl,hc,j.loc (λg i=>e.block g (f g i).2)⟩,?_,?_⟩
 ·rw[List.nodup_append];refine⟨n,k,λa p b l=>?_⟩;have:=(hb a p).1;have:=(f b l).2;omega
 ·intro g i
  rcases List.mem_append.1 i with i|i
  ·have:=h.bel.size;exact⟨by have:=(hb g i).1;omega,(hb g i).2⟩
  ·exact⟨(f g i).1,Nat.lt_of_lt_of_le (f g i).2 e.size⟩
structure Kb (fp:List Nat) (w w':World):Prop where
  os:w'.os=w.os
  tape:w'.tape=w.tape
  output:w'.output=w.output
  size:w.heap.size<=w'.heap.size
  block:∀g,g<w.heap.size->g∉fp->w'.heap[g]?=w.heap[g]?
theorem Kb.of_ex{fp:List Nat}{w w':World}(e:Ex w w'):Kb fp w w':=⟨e.os,e.tape,e.output,e.size,λg a _=>e.block g a⟩
theorem St.at{w0 w:World}{c:Chunk}{H:List Chunk}{k:Nat}(h:St w0 H w)(hk:H[k]?=some c):
  ∃fp,c.ok w fp/\fp.Nodup/\∀g∈fp,w0.heap.size<=g/\g<w.heap.size:=by
 obtain⟨F,a,j,b⟩:=h.own;obtain⟨l,fp,m,e,i,_⟩:=a.focus hk;subst e;refine⟨fp,i,?_,λg f=>b g (by simp[f])⟩;exact(List.nodup_append.1 (List.nodup_append.1 j).2.1).1
theorem St.set{w0 w:World}{c:Chunk}{H:List Chunk}{k:Nat}(h:St w0 H w)(hk:H[k]?=some c):
  ∃fp,c.ok w fp/\fp.Nodup/\(∀g∈fp,w0.heap.size<=g/\g<w.heap.size)/\
   ∀(w':World) (c':Chunk) (l:List Nat),Kb fp w w'->c'.ok w' l->l.Nodup->
    (∀g∈l,(g∈fp\/w.heap.size<=g)/\g<w'.heap.size)->St w0 (H.set k c') w':=by
 obtain⟨F,ho,hn,t⟩:=h.own;obtain⟨x,fp,v,e,hc,z⟩:=ho.focus hk;subst e;have p:=hn;rw[List.nodup_append] at p;obtain⟨n1,u,d1⟩:=p;rw[List.nodup_append] at u;obtain⟨n2,n3,d2⟩:=u;refine⟨fp,hc,n2,λg f=>t g (by simp[f]),λw' c' l r y p q=>?_⟩;have j:∀g∈x++v,g<w.heap.size/\w0.heap.size<=g:=λg f=>by
  have:g∈x++(fp++v):=by
   rcases List.mem_append.1 f with f|f<;>simp[f]
  exact⟨(t g this).2,(t g this).1⟩
 have m:∀g∈x++v,g∉fp:=λg f i=>by
  rcases List.mem_append.1 f with f|f
  ·exact d1 g f g (by simp[i]) rfl
  ·exact d2 g i g f rfl
 refine⟨⟨r.os.trans h.bel.os,r.tape.trans h.bel.tape,r.output.trans h.bel.output,Nat.le_trans h.bel.size r.size,λg f=>?_⟩,
  x++(l++v),z w' c' l (λg f=>r.block g (j g f).1 (m g f)) y,?_,?_⟩
 ·rw[r.block g (Nat.lt_of_lt_of_le f h.bel.size) (λi=>by have:=(t g (by simp[i])).1;omega)];exact h.bel.block g f
 ·rw[List.nodup_append];refine⟨n1,?_,λa s b n=>?_⟩
  ·rw[List.nodup_append];refine⟨p,n3,λa s b n e=>?_⟩;subst e
   rcases(q a s).1 with i|i
   ·exact m a (by simp[n]) i
   ·have:=(j a (by simp[n])).1;omega
  ·intro e;subst e
   rcases List.mem_append.1 n with i|i
   ·rcases(q a i).1 with i|i
    ·exact m a (by simp[s]) i
    ·have:=(j a (by simp[s])).1;omega
   ·exact d1 a s a (by simp[i]) rfl
 ·intro g f
  rcases List.mem_append.1 f with f|f
  ·exact⟨(j g (by simp[f])).2,Nat.lt_of_lt_of_le (j g (by simp[f])).1 r.size⟩
  ·rcases List.mem_append.1 f with f|f
   ·refine⟨?_,(q g f).2⟩
    rcases(q g f).1 with i|i
    ·exact(t g (by simp[i])).1
    ·exact Nat.le_trans h.bel.size i
   ·exact⟨(j g (by simp[f])).2,Nat.lt_of_lt_of_le (j g (by simp[f])).1 r.size⟩
theorem Ows.perm{w:World}{H H':List Chunk}(p:List.Perm H H'):∀{F:List Nat},Ows w H F->∃b,Ows w H' b/\List.Perm F b:=by
 induction p with
 |nil=>exact λh=>⟨_,h,List.Perm.refl _⟩
 | cons x p ih=>
  rintro F ⟨fp,b,e,j,hH⟩;obtain⟨a,c,i⟩:=ih hH;subst e;exact⟨fp++a,⟨fp,a,rfl,j,c⟩,i.append_left fp⟩
 | swap x y l=>
  rintro F ⟨fp,b,e,j,k,a,m,n,hH⟩;subst e;subst m;refine⟨k++(fp++a),⟨k,fp++a,rfl,n,fp,a,rfl,j,hH⟩,?_⟩;rw[<-List.append_assoc,<-List.append_assoc];exact List.Perm.append_right _ List.perm_append_comm
 | trans p q f g=>
  intro F h;obtain⟨r,h1,p1⟩:=f h;obtain⟨a,c,i⟩:=g h1;exact⟨a,c,p1.trans i⟩
theorem St.perm{w0 w:World}{H H':List Chunk}(h:St w0 H w)(p:List.Perm H H'):St w0 H' w:=by
 obtain⟨F,c,j,f⟩:=h.own;obtain⟨e,a,b⟩:=c.perm p;exact⟨h.bel,e,a,b.nodup_iff.1 j,λg i=>f g (b.mem_iff.2 i)⟩
theorem St.dropEnd{w0 w:World}:∀{H X:List Chunk},St w0 (H++X) w->St w0 H w:=by
 intro H X h
 induction X generalizing H with
 |nil=>simpa using h
 | cons x X ih=>
  have p:List.Perm (H++x::X) (x::(H++X)):=List.perm_middle;exact ih (h.perm p).tail
def aK{α:Type}:List α->Nat->List α
 | [],_=> []
 |x::l,0=>x::l
 | x::l,k+1=>match aK l k with
  | []=> [x]
  |y::r=>y::x::r
theorem O3{α:Type}:∀(l:List α) (k:Nat),List.Perm l (aK l k)
 | [],_=>List.Perm.refl _
 |x::l,0=>List.Perm.refl _
 | x::l,k+1=>by
  have h:=O3 l k;unfold aK
  split
  ·rename_i e;rw[e] at h;have:=h.eq_nil;subst this;exact List.Perm.refl _
  ·rename_i y r e;rw[e] at h;exact(h.cons x).trans (List.Perm.swap y x r)
def D(N:Nat)(w0:World)(H:List Chunk)(L:Fm)(K:Act->World->Prop):Prop:=∀a w,Fits a N L->St w0 H w->K a w
section
variable {P:Program} {N:Nat} {w0:World} {H:List Chunk} {L:Fm} {ops:Array Oper} {Q:Exit->Act->World->Prop} {o:Oper} {rest:List Oper} {d:Nat}
theorem D.use{K:Act->World->Prop}{a:Act}{w:World}(h:D N w0 H L K)(b:Fits a N L)(c:St w0 H w):K a w:=h a w b c
theorem Dw{K:Act->World->Prop}(c:Fm)(e:lE c L)(h:D N w0 H c K):D N w0 H L K:=λa w f b=>h a w (f.weak e) b
theorem AH{K:Act->World->Prop}(ks:List Nat){a:Fm}(e:aI ks L=some a)(h:D N w0 H a K):D N w0 H L K:=Dw a (WQ e) h
def gd(ops:Array Oper)(L:Fm)(o:Oper):Option Bool:=
 match o.guard with
 |none=>some true
 | some (j,b)=>match ((ops[j]?).bind (·.dst)).bind (look L) with
  |some (.bool c)=>some (c==b)
  |some (.tuple _)=>some false
  |_=>none
theorem LM{a:Act}{r:Bool}(e:Fits a N L)(h:gd ops L o=some r):Region.wanted o (yielded ops a.tmps)=r:=by
 unfold gd at h;unfold Region.wanted
 cases hg:o.guard with
 |none=>rw[hg] at h;simpa using h
 | some jb=>
  obtain⟨j,b⟩:=jb;rw[hg] at h;simp only at h⊢;unfold yielded
  cases hj:(ops[j]?).bind (·.dst) with
  |none=>rw[hj] at h;simp at h
  | some dj=>
   rw[hj] at h;simp only[Option.bind_some] at h⊢
   split at h
   ·rename_i c hc;have h1:=e.at_ dj _ hc;have f:a.tmps[dj]?=some (.bool c):=by
     rw[Array.getD_eq_getD_getElem?] at h1
     cases hx:a.tmps[dj]? with
     |none=>rw[hx] at h1;simp[undef] at h1
     |some u=>rw[hx] at h1;simpa using h1
    rw[f];simp only[Option.some.injEq] at h;rw[<-h]
    cases c<;>cases b<;>rfl
   ·rename_i vs hc;have h1:=e.at_ dj _ hc;simp only[Option.some.injEq] at h;rw[<-h]
    cases hx:a.tmps[dj]? with
    |none=>rfl
    | some u=>
     rw[Array.getD_eq_getD_getElem?,hx] at h1;simp only[Option.getD_some] at h1;subst h1;rfl
   ·cases h
theorem eZ{a:Act}{w:World}(b:Region.wanted o (yielded ops a.tmps)=true)(h:o.wp P a w (wpList P ops Q rest) Q):wpList P ops Q (o::rest) a w:=by
 unfold wpList;rw[if_pos b];exact .inl h
variable {K:Act->World->Prop}
theorem KQ(hd:o.dst=some d)(b:Nat.blt d N=true)
  (c:∀a w,Fits a N L->St w0 H w->∃v w',(execOp a.eval o).run P w= .ok (.value v) w'/\∀a',Fits a' N ((d,v)::L)->K a' w'):
  D N w0 H L (λa w=>o.wp P a w K Q):=by
 intro a w hf hs;obtain⟨v,w',h1,e⟩:=c a w hf hs;show o.wp P a w K Q;unfold Oper.wp;rw[h1];simp only[Oper.upon_value];rw[hd];exact e _ (hf.put b v)
theorem TF(hd:o.dst=none)
  (b:∀a w,Fits a N L->St w0 H w->∃w',(execOp a.eval o).run P w= .ok .skip w'/\∀a',Fits a' N L->K a' w'):
  D N w0 H L (λa w=>o.wp P a w K Q):=by
 intro a w hf hs;obtain⟨w',h1,c⟩:=b a w hf hs;show o.wp P a w K Q;unfold Oper.wp;rw[h1];simp only[Oper.upon_skip];rw[hd];exact c _ hf
def C2(P:Program)(N:Nat)(w0:World)(H:List Chunk)(L:Fm)(o:Oper)(v:Value):Prop:=∀a w,Fits a N L->St w0 H w->(execOp a.eval o).run P w= .ok (.value v) w
theorem sv{v:Value}(hd:o.dst=some d)(e:Nat.blt d N=true)(f:C2 P N w0 H L o v)(k:D N w0 H ((d,v)::L) K):D N w0 H L (λa w=>o.wp P a w K Q):=
 KQ hd e λa w g c=>⟨v,w,f a w g c,λh b=>k h w b c⟩
theorem li(c:gd ops L o=some true)(h:D N w0 H L (λa w=>o.wp P a w (wpList P ops Q rest) Q)):D N w0 H L (wpList P ops Q (o::rest)):=
 λa w b e=>eZ (LM b c) (h a w b e)
theorem zD{v:Value}(a:gd ops L o=some true)(hd:o.dst=some d)(b:Nat.blt d N=true)
  (c:C2 P N w0 H L o v) (k:D N w0 H ((d,v)::L) (wpList P ops Q rest)):
  D N w0 H L (wpList P ops Q (o::rest)):=li a (sv hd b c k)
def nU(N:Nat)(ops:Array Oper)(L:Fm)(o:Oper):Option Nat:=
 match gd ops L o,o.dst with
 |some true,some d=>cond (Nat.blt d N) (some d) none
 |_,_=>none
theorem N4(h:nU N ops L o=some d):gd ops L o=some true/\o.dst=some d/\Nat.blt d N=true:=by
 unfold nU at h
 split at h
 ·rename_i d' h1 a
  cases hb:Nat.blt d' N with
  |false=>rw[hb] at h;cases h
  | true=>
   rw[hb] at h;simp only[cond_true,Option.some.injEq] at h;subst h;exact⟨h1,a,hb⟩
 ·cases h
theorem q1{v:Value}(h:nU N ops L o=some d)(a:C2 P N w0 H L o v)(k:D N w0 H ((d,v)::L) (wpList P ops Q rest)):D N w0 H L (wpList P ops Q (o::rest)):=
 zD (N4 h).1 (N4 h).2.1 (N4 h).2.2 a k
theorem A6I(b:gd ops L o=some false)(hd:o.dst=some d)(c:Nat.blt d N=true)(k:D N w0 H ((d,undef)::L) (wpList P ops Q rest)):
  D N w0 H L (wpList P ops Q (o::rest)):=by
 intro a w hf hs;unfold wpList;rw[if_neg (by rw[LM hf b];simp),hd];exact k _ _ (hf.put c _) hs
def nV:BinOp->Int->Int->Option Bool
 | .eql,x,y=>some (x==y)
 | .neq,x,y=>some (x !=y)
 | .lss,x,y=>some (decide (x<y))
 | .leq,x,y=>some (decide (x<=y))
 | .gtr,x,y=>some (decide (y<x))
 | .geq,x,y=>some (decide (y<=x))
 |_,_,_=>none
def nW(L:Fm):Op->Option Value
 | .move x=>ev L x
 | .assign x=>ev L x
 | .pick c x y=>match ev L c with
  |some (.bool true)=>ev L x
  |some (.bool false)=>ev L y
  |_=>none
 | .unOp .not _ x=>match ev L x with
  |some (.bool b)=>some (.bool (!b))
  |_=>none
 | .binOp op _ x y _=>match ev L x,ev L y with
  |some (.int .i64 m),some (.int .i64 n)=>(nV op m n).map .bool
  |some (.int .u8 m),some (.int .u8 n)=>(nV op m n).map .bool
  |some (.int .i32 m),some (.int .i32 n)=>(nV op m n).map .bool
  |_,_=>none
 | .extract x i=>match ev L x with
  |some (.tuple vs)=>vs[i]?
  |_=>none
 |_=>none
theorem YG{w:World}{op:BinOp}{t:TypeId}{x y:Operand}{k:IntKind}{m n:Int}{b:Bool}(h:nV op m n=some b):
  (do eqGuard op t x y (.int k m) (.int k n);binOp op t (.int k m) (.int k n):Sem Value).run P w= .ok (.bool b) w:=by
 cases op<;>simp only[nV,Option.some.injEq,reduceCtorEq] at h<;>subst h<;>
  simp[eqGuard,binOp,Op.intCmp,Sem.run_pure]
theorem TG{a:Act}{v:Value}(w:World)(f:Fits a N L)(h:nW L o.op=some v):(execOp a.eval o).run P w= .ok (.value v) w:=by
 unfold execOp;unfold nW at h
 split at h
 ·rename_i x hx;rw[hx];simp only;rw[f.ev h];rfl
 ·rename_i x hx;rw[hx];simp only;rw[f.ev h];rfl
 ·rename_i c x y hx;rw[hx];simp only
  split at h
  ·rename_i hc;rw[f.ev hc,f.ev h];rfl
  ·rename_i hc;rw[f.ev hc,f.ev h];rfl
  ·cases h
 ·rename_i t x hx;rw[hx];simp only
  split at h
  ·rename_i b g;simp only[Option.some.injEq] at h;rw[f.ev g,<-h];rfl
  ·cases h
 ·rename_i op t x y t' hx;rw[hx];simp only
  split at h
  ·rename_i m n h1 j;simp only[Option.map_eq_some_iff] at h;obtain⟨b,g,e⟩:=h;rw[f.ev h1,f.ev j,<-e,Sem.run_bind,YG g];rfl
  ·rename_i m n h1 j;simp only[Option.map_eq_some_iff] at h;obtain⟨b,g,e⟩:=h;rw[f.ev h1,f.ev j,<-e,Sem.run_bind,YG g];rfl
  ·rename_i m n h1 j;simp only[Option.map_eq_some_iff] at h;obtain⟨b,g,e⟩:=h;rw[f.ev h1,f.ev j,<-e,Sem.run_bind,YG g];rfl
  ·cases h
 ·rename_i x i hx;rw[hx];simp only
  split at h
  ·rename_i vs hv;rw[f.ev hv];simp[Instr.extract,h,Sem.run_pure]
  ·cases h
 ·cases h
theorem pp{v:Value}(a:gd ops L o=some true)(b:nW L o.op=some v)(hd:o.dst=some d)(c:Nat.blt d N=true)
  (k:D N w0 H ((d,v)::L) (wpList P ops Q rest)):D N w0 H L (wpList P ops Q (o::rest)):=
 zD a hd c (λ_ w e _=>TG w e b) k
def lF(N:Nat)(ops:Array Oper)(L:Fm)(o:Oper):Option (Nat × Value):=
 match gd ops L o,o.dst,nW L o.op with
 |some true,some d,some v=>cond (Nat.blt d N) (some (d,v)) none
 |_,_,_=>none
theorem rp{v:Value}(a:nW L o.op=some v):C2 P N w0 H L o v:=λ_ w b _=>TG w b a
theorem p1{v:Value}(h:lF N ops L o=some (d,v))(k:D N w0 H ((d,v)::L) (wpList P ops Q rest)):D N w0 H L (wpList P ops Q (o::rest)):=by
 unfold lF at h
 split at h
 ·rename_i d' v' h1 a b
  cases hb:Nat.blt d' N with
  |false=>rw[hb] at h;cases h
  | true=>
   rw[hb] at h;simp only[cond_true,Option.some.injEq,Prod.mk.injEq] at h;obtain⟨c,e⟩:=h;subst c;subst e;exact pp h1 b a hb k
 ·cases h
def ntp(N:Nat)(ops:Array Oper)(L:Fm)(o:Oper):Option Nat:=
 match gd ops L o,o.dst with
 |some false,some d=>cond (Nat.blt d N) (some d) none
 |_,_=>none
theorem n1(h:ntp N ops L o=some d)(k:D N w0 H ((d,undef)::L) (wpList P ops Q rest)):D N w0 H L (wpList P ops Q (o::rest)):=by
 unfold ntp at h
 split at h
 ·rename_i d' h1 a
  cases hb:Nat.blt d' N with
  |false=>rw[hb] at h;cases h
  | true=>
   rw[hb] at h;simp only[cond_true,Option.some.injEq] at h;subst h;exact A6I h1 a hb k
 ·cases h
theorem gs{K:Act->World->Prop}(i:Nat){b:Bool}(h:look L i=some (.bool b))(q:Nat.blt i N=true)(m:b=true->D N w0 H ((i, .bool true)::L) K)(n:b=false->D N w0 H ((i, .bool false)::L) K):D N w0 H L K:=by
 have l:∀a:Act,Fits a N L->∀c:Bool,b=c->Fits a N ((i, .bool c)::L):=λa f c p=>by
  refine⟨f.dfr,f.size,λj v g=>?_⟩;simp only[look] at g
  cases hb:Nat.beq i j with
  | true=>
   have e:i=j:=Nat.eq_of_beq_eq_true hb;subst e;rw[hb] at g;simp only[cond_true,Option.some.injEq] at g;rw[<-g,<-p];exact f.at_ i _ h
  |false=>rw[hb] at g;exact f.at_ j v g
 cases hb:b with
 |true=>exact λa w f k=>m hb a w (l a f true hb) k
 |false=>exact λa w f k=>n hb a w (l a f false hb) k
theorem gkt{K:Act->World->Prop}(i:Nat){b:Bool}(h:look L i=some (.bool b))(a:Nat.blt i N=true)(e:b=true)(k:D N w0 H ((i, .bool true)::L) K):D N w0 H L K:=gs i h a (λ_=>k) (λf=>absurd (e.symm.trans f) (by decide))
theorem gkf{K:Act->World->Prop}(i:Nat){b:Bool}(h:look L i=some (.bool b))(a:Nat.blt i N=true)(e:b=false)(k:D N w0 H ((i, .bool false)::L) K):D N w0 H L K:=gs i h a (λf=>absurd (e.symm.trans f) (by decide)) (λ_=>k)
def nX(ops:Array Oper)(k:Nat):List Nat:=match ops[k]? with
 |some o=>(o.after.toList.filter (λe=>Region.binds .any e)).map (·.on)
 |none=> []
def below(ops:Array Oper)(z:Nat):List Nat:=(List.range ops.size).reverse.foldl (λl k=>bif l.contains k then l++nX ops k else l) [z]
def zok(ops:Array Oper)(zs:List Nat):Bool:=zs.all λz=>(List.range ops.size).all (λk=>zs.contains k||(below ops z).contains k||(below ops k).contains z)
def Closed(ops:Array Oper)(listed:Array Bool):Prop:=∀k o,ops[k]?=some o->listed.getD k false=true->∀e∈o.after,Region.binds .any e=true->listed.getD e.on false=true
theorem J2{listed:Array Bool}{j:Nat}(h:Closed ops listed)(c:j∈Region.ready .any ops listed):Closed ops (listed.setIfInBounds j true):=by
 intro k o hk hl e he hb;refine getD_set_true ?_
 by_cases hjk:j=k
 ·subst hjk;obtain⟨_,f,a,b⟩:=mem_ready.1 c;rw[hk] at a;simp only[Option.some.injEq] at a;subst a;exact b e he hb
 ·rw[getD_set_ne false hjk] at hl;exact h k o hk hl e he hb
theorem PU{listed:Array Bool}{z:Nat}(hc:Closed ops listed)(n:z∈Region.ready .any ops listed):∀k∈below ops z,k=z\/listed.getD k false=true:=by
 have g:∀k,(k=z\/listed.getD k false=true)->∀q∈nX ops k,q=z\/listed.getD q false=true:=λk b q a=>by
  unfold nX at a
  split at a
  ·rename_i o ho;simp only[List.mem_map,List.mem_filter] at a;obtain⟨e,⟨m,j⟩,rfl⟩:=a
   right
   rcases b with rfl|b
   ·obtain⟨_,r,c,f⟩:=mem_ready.1 n;rw[ho] at c;simp only[Option.some.injEq] at c;subst c;exact f e (by simpa using m) j
   ·exact hc k o ho b e (by simpa using m) j
  ·cases a
 have p:∀(i l:List Nat),(∀k∈l,k=z\/listed.getD k false=true)->∀k∈i.foldl (λl k=>bif l.contains k then l++nX ops k else l) l,k=z\/listed.getD k false=true:=λi=>by
  induction i with
  |nil=>exact λl h=>h
  | cons k i ih=>
   intro l h;simp only[List.foldl_cons];refine ih _ ?_
   cases b:l.contains k with
   |false=>exact h
   | true=>
    intro q a;simp only[cond_true,List.mem_append] at a
    rcases a with a|a
    ·exact h q a
    ·exact g k (h k (by simpa using b)) q a
 exact p _ _ (λk b=> .inl (by simpa using b))
theorem A1H{listed:Array Bool}{zs:List Nat}{z i:Nat}(g:zok ops zs=true)(l:z∈zs)(hc:Closed ops listed)(k:z∈Region.ready .any ops listed)(b:i∈Region.ready .any ops listed):i=z\/i∈zs:=by
 have unl:∀j,j∈Region.ready .any ops listed->¬listed.getD j false=true:=λj m h=>by
  obtain⟨a,o,n,_⟩:=mem_ready.1 m
  rcases Nat.lt_or_ge j listed.size with f|f
  ·simp[f] at a h;rw[a] at h;cases h
  ·simp[Array.getElem?_eq_none f] at h
 obtain⟨_,o,c,_⟩:=mem_ready.1 b;have e:i<ops.size:=(Array.getElem?_eq_some_iff.1 c).1;simp only[zok,List.all_eq_true,List.mem_range,Bool.or_eq_true] at g
 rcases g z l i e with (h|h)|h
 ·exact .inr (by simpa using h)
 ·rcases PU hc k i (by simpa using h) with h|h
  ·exact .inl h
  ·exact absurd h (unl i b)
 ·rcases PU hc b z (by simpa using h) with h|h
  ·exact .inl h.symm
  ·exact absurd h (unl z k)
def ziB(ops:Array Oper)(zs:List Nat)(i:Nat):Bool:= !zs.contains i||zs.all (λj=>Nat.beq j i||(below ops j).contains i||(below ops i).contains j)
theorem C8S{listed:Array Bool}{zs:List Nat}{z i:Nat}(l:zok ops zs=true)(a:ziB ops zs i=true)(k:z∈zs)(hc:Closed ops listed)(e:z∈Region.ready .any ops listed)(f:i∈Region.ready .any ops listed):i=z:=by
 have unl:∀j,j∈Region.ready .any ops listed->¬listed.getD j false=true:=λj m h=>by
  obtain⟨c,o,n,_⟩:=mem_ready.1 m
  rcases Nat.lt_or_ge j listed.size with g|g
  ·simp[g] at c h;rw[c] at h;cases h
  ·simp[Array.getElem?_eq_none g] at h
 unfold ziB at a;rw[Bool.or_eq_true] at a
 rcases a with h|h
 ·rcases A1H l k hc e f with h1|h1
  ·exact h1
  ·exact absurd h1 (by simpa using h)
 ·have h1:=List.all_eq_true.1 h z k;rw[Bool.or_eq_true,Bool.or_eq_true] at h1
  rcases h1 with (h1|h1)|h1
  ·exact(Nat.eq_of_beq_eq_true h1).symm
  ·rcases PU hc e i (by simpa using h1) with b|b
   ·exact b
   ·exact absurd b (unl i f)
  ·rcases PU hc f z (by simpa using h1) with b|b
   ·exact b.symm
   ·exact absurd b (unl z e)
def lG(P:Program)(ops:Array Oper)(Q:Exit->Act->World->Prop)(S:World->Prop)(z:List Nat):Nat->Array Bool->Act->World->Prop
 |0,listed,a,w=>Region.ready .any ops listed=[]/\Q .normal a w
 | n+1,listed,a,w=>(Region.ready .any ops listed=[]->Q .normal a w)/\
  ∀i∈Region.ready .any ops listed,wpOp P ops Q i (λa' w'=>(i∉z->S w')/\lG P ops Q S z n (listed.setIfInBounds i true) a' w') a w
theorem TH{S:World->Prop}{z:List Nat}:∀(n:Nat) (listed:Array Bool) (a:Act) (w:World),lG P ops Q S z n listed a w->wpAny P .any ops Q n listed a w
 |0,_,_,_,h=>h
 |n+1,_,_,_,h=>⟨h.1,λi b=>wpOp_mono (λc w' e=>TH n _ c w' e.2) (h.2 i b)⟩
theorem lH{S:World->Prop}{z:List Nat}{listed:Array Bool}{a:Act}{w:World}(b:Region.ready .any ops listed=[])(h:Q .normal a w):∀n,lG P ops Q S z n listed a w
 |0=>⟨b,h⟩
 |_+1=>⟨λ_=>h,by rw[b];simp⟩
theorem WR{S:World->Prop}{z:List Nat}{i:Nat}{m:Oper}{v:Value}(a1:zok ops z=true)(a2:ziB ops z i=true)(hi:ops[i]?=some m)(g:Region.noSelect ops=true)(hQ:∀c a w,Q (.panic c) (a.put m.dst v) w->Q (.panic c) a w):
  ∀(n:Nat) (listed:Array Bool) (a:Act) (w:World),Closed ops listed->
   (∀j p,ops[j]?=some p->j≠i->listed.getD j true=false->(∀e∈p.after,Region.binds .any e=true->e.on≠i)->m.apart ops p=true)->
   i∈Region.ready .any ops listed->YieldsIf P ops S m v a->S w->
   lG P ops Q S z n (listed.setIfInBounds i true) (a.put m.dst v) w->lG P ops Q S z (n+1) listed a w:=by
 intro n
 induction n with
 | zero=>
  intro listed a w _ _ hr hy hS G;refine⟨λh=>absurd hr (by rw[h];simp),λj r=>?_⟩
  by_cases e:j=i
  ·subst e;exact hy.wpOp hi hS ⟨λ_=>hS,G⟩
  ·have h1:=ready_mono r e;rw[G.1] at h1
   cases h1
 | succ n ih=>
  intro listed a w hc hfree hr hy hS G;refine⟨λh=>absurd hr (by rw[h];simp),λj r=>?_⟩
  by_cases e:j=i
  ·subst e;exact hy.wpOp hi hS ⟨λ_=>hS,G⟩
  ·obtain⟨t,p,q,y⟩:=mem_ready.1 r;have s:j∉z:=λe2=>e (C8S a1 a2 e2 hc r hr).symm
   have a4:∀x∈p.after,Region.binds .any x=true->x.on≠i:=λx hx hb a3=>by
    have h1:=y x hx hb;have h0:=(mem_ready.1 hr).1;rw[a3] at h1
    rcases Nat.lt_or_ge i listed.size with h'|h'
    ·simp[h'] at h0 h1;rw[h0] at h1;cases h1
    ·simp[Array.getElem?_eq_none h'] at h1
   have h2:=wpOp_putIf q (hfree j p q e t a4) (λcs b=>Region.noSelect_spec g i m cs b hi) (λcs b=>Region.noSelect_spec g j p cs b q) hQ hy (G.2 j (ready_mono r e));have a6:=ready_mono hr (Ne.symm e);refine wpOp_mono (λa' w' h3=>?_) h2;have f:∀k u,ops[k]?=some u->k≠i->(listed.setIfInBounds j true).getD k true=false->
     (∀x∈u.after,Region.binds .any x=true->x.on≠i)->m.apart ops u=true:=λk u hk a5 l a0=>by
    refine hfree k u hk a5 ?_ a0
    by_cases hjk:j=k
    ·subst hjk;exact t
    ·rw[getD_set_ne true hjk] at l;exact l
   refine⟨λ_=>h3.2.1 s,ih (listed.setIfInBounds j true) a' w' (J2 hc r) f a6 h3.1 (h3.2.1 s) ?_⟩;rw[Array.setIfInBounds_comm _ _ e];exact h3.2.2
abbrev JG(P:Program)(ops:Array Oper)(Q:Exit->Act->World->Prop)(w0:World)(H0:List Chunk)(z:List Nat)(n:Nat)(listed:Array Bool):Act->World->Prop:=
 λa w=>zok ops z=true->Closed ops listed->lG P ops (NoPanic Q) (St w0 H0) z n listed a w
theorem A0{b:Nat}{l:List Oper}(c:P.follows .mixedOrders=true)(z:List Nat)(e:zok l.toArray z=true)(h:D N w0 H L (JG P l.toArray Q w0 H z l.length (Array.replicate l.length false))):D N w0 H L ((Code.region b l.toArray true).wp P Q):=by
 intro a w hf hs;refine wp_region_noPanic (wp_region_any c (TH (S:=St w0 H) (z:=z) _ _ _ _ ?_));have:=h a w.drew hf (hs.ext (Ex.drew w)) e (λk o f hl=>by
  exfalso;simp only[Array.getD_eq_getD_getElem?,Array.getElem?_replicate] at hl
  split at hl<;>simp at hl)
 simpa using this
theorem vI(b:List Chunk){c:Nat}{l:List Oper}(e:P.follows .mixedOrders=true)(z:List Nat)(f:zok l.toArray z=true)(h:D N w0 H L (JG P l.toArray Q w0 b z l.length (Array.replicate l.length false))):D N w0 H L ((Code.region c l.toArray true).wp P Q):=by
 intro a w hf hs;refine wp_region_noPanic (wp_region_any e (TH (S:=St w0 b) (z:=z) _ _ _ _ ?_));have:=h a w.drew hf (hs.ext (Ex.drew w)) f (λk o g hl=>by
  exfalso;simp only[Array.getD_eq_getD_getElem?,Array.getElem?_replicate] at hl
  split at hl<;>simp at hl)
 simpa using this
theorem tk{f:List Chunk}{z:List Nat}{n:Nat}{listed:Array Bool}(i:Nat){v:Value}(p:ops[i]?=some o)(b:Region.noSelect ops=true)(g:Region.free .any ops listed i=true)(j:(Region.ready .any ops listed).contains i=true)
  (h:nU N ops L o=some d) (q:∀w,St w0 H w->St w0 f w) (r:C2 P N w0 f L o v) (k:D N w0 H ((d,v)::L) (JG P ops Q w0 f z n (listed.setIfInBounds i true))) (l:ziB ops z i=true:=by kernel_rfl):D N w0 H L (JG P ops Q w0 f z (n+1) listed):=by
 obtain⟨u,s,t⟩:=N4 h;intro a w hf hs hz hc;have e:i∈Region.ready .any ops listed:=by simpa using j
 refine WR hz l p b (v:=v) (λc a w x=>x) _ _ _ _ hc (Region.free_spec p g) e (.inl ⟨LM hf u,λw' m=>r a w' hf m⟩) (q w hs) ?_;rw[s];exact k _ _ (hf.put t v) hs hz (J2 hc e)
theorem tn{f:List Chunk}{z:List Nat}{n:Nat}{listed:Array Bool}(i:Nat)(l:ops[i]?=some o)(b:Region.noSelect ops=true)(g:Region.free .any ops listed i=true)(h:(Region.ready .any ops listed).contains i=true)
  (m:gd ops L o=some false) (hd:o.dst=some d) (p:Nat.blt d N=true) (q:∀w,St w0 H w->St w0 f w) (k:D N w0 H ((d,undef)::L) (JG P ops Q w0 f z n (listed.setIfInBounds i true))) (j:ziB ops z i=true:=by kernel_rfl):D N w0 H L (JG P ops Q w0 f z (n+1) listed):=by
 intro a w hf hs hz hc;have e:i∈Region.ready .any ops listed:=by simpa using h
 refine WR hz j l b (v:=undef) (λc a w r=>r) _ _ _ _ hc (Region.free_spec l g) e (.inr ⟨LM hf m,rfl⟩) (q w hs) ?_;rw[hd];exact k _ _ (hf.put p _) hs hz (J2 hc e)
theorem ty{c:List Chunk}{z:List Nat}{n:Nat}{listed:Array Bool}(i:Nat)(l:ops[i]?=some o)(m:gd ops L o=some true)
  (k:D N w0 H L (λa w=>o.wp P a w (λg w'=>(i∉z->St w0 c w')/\JG P ops Q w0 c z n (listed.setIfInBounds i true) g w') (NoPanic Q))) (b:Region.ready .any ops listed=[i]:=by kernel_rfl):D N w0 H L (JG P ops Q w0 c z (n+1) listed):=by
 intro a w hf hs hz hc;refine⟨λh0=>absurd (b.symm.trans h0) (by simp),λj f=>?_⟩;have e:=f;rw[b,List.mem_singleton] at f;subst f;unfold wpOp;simp only[l,LM hf m,if_true];refine .inl (Oper.wp_mono (λg w' h=>⟨h.1,h.2 hz (J2 hc e)⟩) (k a w hf hs))
theorem tS{b:List Chunk}{φ:Prop}{K:Act->World->Prop}(e:∀w,St w0 H w->St w0 b w)(k:D N w0 H L K):D N w0 H L (λa w=>(φ->St w0 b w)/\K a w):=λa w f c=>⟨λ_=>e w c,k a w f c⟩
theorem tZ{b:List Chunk}{z:List Nat}{i:Nat}{K:Act->World->Prop}(c:z.contains i=true)(k:D N w0 H L K):D N w0 H L (λa w=>(i∉z->St w0 b w)/\K a w):=λa w e f=>⟨λh=>absurd (by simpa using c) h,k a w e f⟩
theorem tE{c:List Chunk}{z:List Nat}{n:Nat}{listed:Array Bool}(k:D N w0 H L (Q .normal))(b:Region.ready .any ops listed=[]:=by kernel_rfl):D N w0 H L (JG P ops Q w0 c z n listed):=
 λa w e f _ _=>lH (Q:=NoPanic Q) b (NoPanic.normal (k a w e f)) n
theorem A8I{x:Operand}{p:Addr}(b:o.op= .nilCheck x)(c:ev L x=some (.pointer (some p))):C2 P N w0 H L o (.pointer (some p)):=by
 intro a w hf _;unfold execOp;rw[b];simp[hf.ev c]
theorem De(k:D N w0 H L (Q .normal)):D N w0 H L (wpList P ops Q []):=k
theorem P2{v a:Value}{d1:Nat}{b:Oper}(h:lF N ops L o=some (d,v))(h1:lF N ops ((d,v)::L) b=some (d1,a))(k:D N w0 H ((d1,a)::(d,v)::L) (wpList P ops Q rest)):D N w0 H L (wpList P ops Q (o::b::rest)):=p1 h (p1 h1 k)
theorem P3{v a v2:Value}{d1 d2:Nat}{b c:Oper}(h:lF N ops L o=some (d,v))(h1:lF N ops ((d,v)::L) b=some (d1,a))(e:lF N ops ((d1,a)::(d,v)::L) c=some (d2,v2))(k:D N w0 H ((d2,v2)::(d1,a)::(d,v)::L) (wpList P ops Q rest)):D N w0 H L (wpList P ops Q (o::b::c::rest)):=p1 h (p1 h1 (p1 e k))
theorem Pe{v:Value}{K:Act->World->Prop}(h:lF N ops L o=some (d,v))(k:D N w0 H ((d,v)::L) K):D N w0 H L (wpList P ops (Exit.then K Q) [o]):=p1 h (De k)
theorem Dx{K:Act->World->Prop}(k:D N w0 H L K):D N w0 H L (wpList P ops (Exit.then K Q) []):=k
def vJ(ops:Array Oper)(listed:Array Bool)(i:Nat):Bool:=Region.noSelect ops&&Region.free .any ops listed i&&(Region.ready .any ops listed).contains i
theorem Tk{z:List Nat}{n:Nat}{listed:Array Bool}(i:Nat){v:Value}(b:ops[i]?=some o)
  (h:nU N ops L o=some d) (c:C2 P N w0 H L o v) (k:D N w0 H ((d,v)::L) (JG P ops Q w0 H z n (listed.setIfInBounds i true))) (hb:vJ ops listed i=true:=by kernel_rfl) (a:ziB ops z i=true:=by kernel_rfl):D N w0 H L (JG P ops Q w0 H z (n+1) listed):=by
 simp only[vJ,Bool.and_eq_true] at hb;exact tk i b hb.1.1 hb.1.2 hb.2 h (λ_ e=>e) c k a
theorem Tj{a:List Chunk}{z:List Nat}{n:Nat}{listed:Array Bool}(i:Nat){v:Value}(c:ops[i]?=some o)
  (h:nU N ops L o=some d) (e:∀w,St w0 H w->St w0 a w) (f:C2 P N w0 a L o v) (k:D N w0 H ((d,v)::L) (JG P ops Q w0 a z n (listed.setIfInBounds i true))) (hb:vJ ops listed i=true:=by kernel_rfl) (b:ziB ops z i=true:=by kernel_rfl):D N w0 H L (JG P ops Q w0 a z (n+1) listed):=by
 simp only[vJ,Bool.and_eq_true] at hb;exact tk i c hb.1.1 hb.1.2 hb.2 h e f k b
end
end Go.Sy
namespace Go.Sy
open Go Go.RowKit
def E4(w w':World):Prop:=∀(p:Addr) (v:Value),w.cell? p=some v->w'.cell? p=some v
theorem E4.refl(w:World):E4 w w:=λ_ _ h=>h
theorem E4.trans{a b c:World}(h:E4 a b)(k:E4 b c):E4 a c:=λp v e=>k p v (h p v e)
theorem lt_of_heap{w:World}{g:Nat}{o:Obj}(h:w.heap[g]?=some o):g<w.heap.size:=(Array.getElem?_eq_some_iff.1 h).1
theorem lt_of_cell{w:World}{p:Addr}{v:Value}(h:w.cell? p=some v):p.block<w.heap.size:=by
 unfold World.cell? at h
 cases hb:w.heap[p.block]? with
 |none=>rw[hb] at h;simp at h
 |some o=>exact lt_of_heap hb
theorem Ex.cell{w w':World}(e:Ex w w'){p:Addr}{v:Value}(h:w.cell? p=some v):w'.cell? p=some v:=by
 rw[<-h];exact Below.cell e (lt_of_cell h)
theorem Ex.sbw{w w':World}(e:Ex w w'):E4 w w':=λ_ _ h=>Ex.cell e h
class Gd (α:Type) where
  n:Nat
  st:Bool
  rd:World->List Value->α->Prop
  ow:World->List Value->α->List Nat->Prop
  rd_len:∀{w cs x},rd w cs x->cs.length=n
  rd_one:∀{w cs x},rd w cs x->∀u∈cs,u.oneCell'=true
  rd_sub:∀{w w' cs x},E4 w w'->rd w cs x->rd w' cs x
  ow_loc:∀{w w' cs x fp},ow w cs x fp->(∀g∈fp,w'.heap[g]?=w.heap[g]?)->ow w' cs x fp
  ow_lt:∀{w cs x fp},ow w cs x fp->∀g∈fp,g<w.heap.size
  ow_rd:∀{w cs x fp},ow w cs x fp->rd w cs x
theorem Gd.rd_ext{α:Type} [Gd α]{w w':World}{cs:List Value}{x:α}(e:Ex w w')(h:Gd.rd w cs x):Gd.rd w' cs x:=Gd.rd_sub e.sbw h
class Tid (α:Type) where
  id:Nat
class Fl (α:Type) where
  enc:α->Value
  one:∀x,(enc x).oneCell'=true
instance:Fl Int:=⟨λn=> .int .i64 n,λ_=>rfl⟩
instance:Fl Bool:=⟨λb=> .bool b,λ_=>rfl⟩
instance:Fl ByteArray:=⟨λs=> .string s,λ_=>rfl⟩
instance instFl{α:Type} [Fl α]:Gd α where
 n:=1
 st:=false
 rd:=λ_ cs x=>cs=[Fl.enc x]
 ow:=λ_ cs x fp=>cs=[Fl.enc x]/\fp=[]
 rd_len:=λh=>by rw[h];rfl
 rd_one:=λ{_ _ x} h u hu=>by rw[h] at hu;simp only[List.mem_singleton] at hu;rw[hu];exact Fl.one x
 rd_sub:=λ_ h=>h
 ow_loc:=λh _=>h
 ow_lt:=λh g hg=>by rw[h.2] at hg;cases hg
 ow_rd:=λh=>h.1
def A1I{α:Type} [Gd α](w:World)(cs:List Value)(l:List α):Prop:=
 ∃a cap,cs=[.slice a l.length cap]/\(l.length<=cap/\cap<=maxLen)/\∀(i:Nat) (x:α),l[i]?=some x->
  ∃ad es,a=some ad/\(∀(j:Nat) u,es[j]?=some u->w.cell? (ad.add (i*Gd.n α+j))=some u)/\Gd.rd w es x
def A1J{α:Type} [Gd α] [Tid α](w:World)(cs:List Value)(l:List α)(fp:List Nat):Prop:=
 (cs=[.slice none 0 0]/\l=[]/\fp=[])\/
 ∃(g cap:Nat) (cur:Array Value) (fps:List (List Nat)),cs=[.slice (some ⟨g,0,none⟩) l.length cap]/\w.heap[g]?=some (.cells cur (Tid.id α) (0,0))/\l.length<=cap/\cap<=maxLen/\
  cur.size=cap*Gd.n α/\fp=g::fps.flatten/\fps.length=l.length/\
  ∀(i:Nat) (x:α) (f:List Nat),l[i]?=some x->fps[i]?=some f->Gd.ow w ((cur.toList.drop (i*Gd.n α)).take (Gd.n α)) x f
theorem EG{α:Type}{l:List (List α)}{i:Nat}{f:List α}{g:α}(h:l[i]?=some f)(a:g∈f):g∈l.flatten:=
 List.mem_flatten.2 ⟨f,List.mem_of_getElem? h,a⟩
theorem fA{α:Type}{l:List (List α)}{g:α}(h:g∈l.flatten):∃(i:Nat) (f:List α),l[i]?=some f/\g∈f:=by
 obtain⟨f,a,b⟩:=List.mem_flatten.1 h;obtain⟨i,c⟩:=List.getElem?_of_mem a;exact⟨i,f,c,b⟩
theorem sL{α:Type}{l:List α}{i:Nat}(h:i<l.length):∃x,l[i]?=some x:=⟨l[i],List.getElem?_eq_getElem h⟩
theorem sI{α:Type}(l:List α)(i:Nat)(h:i<l.length:=by omega):∃x,l[i]?=some x:=sL h
theorem lS{α:Type}{l:List α}{i:Nat}{x:α}(h:l[i]?=some x):i<l.length:=(List.getElem?_eq_some_iff.1 h).1
theorem cell_of_heap{w:World}{g o:Nat}{cur:Array Value}{t:TypeId}{fz:Nat × Nat}(h:w.heap[g]?=some (.cells cur t fz)):
  w.cell? ⟨g,o,none⟩=cur[o]?:=by
 simp[World.cell?,h]
theorem E9(g o k:Nat):(⟨g,o,none⟩:Addr).add k=⟨g,o+k,none⟩:=by
 unfold Addr.add
 split
 ·rename_i h;subst h;rfl
 ·rfl
instance instList{α:Type} [Gd α] [Tid α]:Gd (List α) where
 n:=1
 st:=false
 rd:=A1I
 ow:=A1J
 rd_len:=λh=>by obtain⟨a,cap,e,_⟩:=h;rw[e];rfl
 rd_one:=λh u hu=>by
  obtain⟨a,cap,e,_⟩:=h;rw[e] at hu;simp only[List.mem_singleton] at hu;rw[hu];rfl
 rd_sub:=λe h=>by
  obtain⟨a,cap,hc,hm,hx⟩:=h;refine⟨a,cap,hc,hm,λi x hi=>?_⟩;obtain⟨ad,es,ha,hj,hr⟩:=hx i x hi;exact⟨ad,es,ha,λj u hu=>e _ _ (hj j u hu),Gd.rd_sub e hr⟩
 ow_loc:=λh hs=>by
  rcases h with h|⟨g,cap,cur,fps,h1,h2,h3,h4,h5,h6,h7,h8⟩
  ·exact .inl h
  ·subst h6;refine .inr ⟨g,cap,cur,fps,h1,by rw[hs g (by simp)];exact h2,h3,h4,h5,rfl,h7,λi x f hx hf=>?_⟩;exact Gd.ow_loc (h8 i x f hx hf) (λk hk=>hs k (List.mem_cons_of_mem _ (EG hf hk)))
 ow_lt:=λh k hk=>by
  rcases h with ⟨_,_,h⟩|⟨g,cap,cur,fps,h1,h2,h3,h4,h5,h6,h7,h8⟩
  ·rw[h] at hk;cases hk
  ·rw[h6] at hk
   rcases List.mem_cons.1 hk with e|hk
   ·rw[e];exact lt_of_heap h2
   ·obtain⟨i,f,hf,hg⟩:=fA hk;obtain⟨x,hx⟩:=sL (by rw[<-h7];exact lS hf);exact Gd.ow_lt (h8 i x f hx hf) k hg
 ow_rd:=λ{w cs x fp} h=>by
  rcases h with ⟨hc,hl,_⟩|⟨g,cap,cur,fps,h1,h2,h3,h4,h5,h6,h7,h8⟩
  ·subst hl;exact⟨none,0,hc,by simp[maxLen],λi y hy=>by simp at hy⟩
  ·refine⟨some ⟨g,0,none⟩,cap,h1,⟨h3,h4⟩,λi y hy=>?_⟩;obtain⟨f,hf⟩:=sL (l:=fps) (i:=i) (by rw[h7];exact lS hy);refine⟨_,_,rfl,λj u hu=>?_,Gd.ow_rd (h8 i y f hy hf)⟩;rw[E9,cell_of_heap h2];rw[List.getElem?_take] at hu
   split at hu
   ·rw[List.getElem?_drop] at hu;simpa using hu
   ·cases hu
instance instProd{α β:Type} [Gd α] [Gd β]:Gd (α × β) where
 n:=Gd.n α+Gd.n β
 st:=true
 rd:=λw cs x=>∃c1 c2,cs=c1++c2/\Gd.rd w c1 x.1/\Gd.rd w c2 x.2
 ow:=λw cs x fp=>∃c1 c2 f1 f2,cs=c1++c2/\fp=f1++f2/\Gd.ow w c1 x.1 f1/\Gd.ow w c2 x.2 f2
 rd_len:=λh=>by
  obtain⟨c1,c2,e,h1,h2⟩:=h;rw[e,List.length_append,Gd.rd_len h1,Gd.rd_len h2]
 rd_one:=λh u hu=>by
  obtain⟨c1,c2,e,h1,h2⟩:=h;rw[e] at hu
  rcases List.mem_append.1 hu with hu|hu
  ·exact Gd.rd_one h1 u hu
  ·exact Gd.rd_one h2 u hu
 rd_sub:=λe h=>by
  obtain⟨c1,c2,e1,h1,h2⟩:=h;exact⟨c1,c2,e1,Gd.rd_sub e h1,Gd.rd_sub e h2⟩
 ow_loc:=λh hs=>by
  obtain⟨c1,c2,f1,f2,e1,e2,h1,h2⟩:=h;subst e2;exact⟨c1,c2,f1,f2,e1,rfl,Gd.ow_loc h1 (λg hg=>hs g (by simp[hg])),Gd.ow_loc h2 (λg hg=>hs g (by simp[hg]))⟩
 ow_lt:=λh g hg=>by
  obtain⟨c1,c2,f1,f2,e1,e2,h1,h2⟩:=h;rw[e2] at hg
  rcases List.mem_append.1 hg with hg|hg
  ·exact Gd.ow_lt h1 g hg
  ·exact Gd.ow_lt h2 g hg
 ow_rd:=λh=>by
  obtain⟨c1,c2,f1,f2,e1,e2,h1,h2⟩:=h;exact⟨c1,c2,e1,Gd.ow_rd h1,Gd.ow_rd h2⟩
@[reducible] def Gd.via {α β : Type} [Gd α] (f : β -> α) : Gd β where
 n:=Gd.n α
 st:=true
 rd:=λw cs x=>Gd.rd w cs (f x)
 ow:=λw cs x fp=>Gd.ow w cs (f x) fp
 rd_len:=λh=>Gd.rd_len h
 rd_one:=λh=>Gd.rd_one h
 rd_sub:=λe h=>Gd.rd_sub e h
 ow_loc:=λh hs=>Gd.ow_loc h hs
 ow_lt:=λh=>Gd.ow_lt h
 ow_rd:=λh=>Gd.ow_rd h
def Gd.vl(α:Type) [Gd α](cs:List Value):Value:=if Gd.st α then .agg cs.toArray else cs.headD undef
theorem rA{α:Type} [Gd α]{w0 w:World}{H:List Chunk}{cs:List Value}{x:α}(a:St w0 H w)(h:Gd.rd w0 cs x):Gd.rd w cs x:=Gd.rd_ext a.bel h
def ov{α:Type} [Gd α](cs:List Value)(x:α):Chunk:=⟨λw fp=>Gd.ow w cs x fp,λ_ _ _ h hs=>Gd.ow_loc h hs⟩
theorem rO{α:Type} [Gd α]{w0 w:World}{H:List Chunk}{cs:List Value}{x:α}{k:Nat}(a:St w0 H w)(h:H[k]?=some (ov cs x)):Gd.rd w cs x:=by
 obtain⟨fp,b,_⟩:=a.at h;exact Gd.ow_rd b
def HH{α:Type} [Gd α](w:World)(x:α)(e:Ending)(w':World):Prop:=
 ∃cs fp,e= .returned (Gd.vl α cs)/\Gd.ow w' cs x fp/\fp.Nodup/\(∀g∈fp,w.heap.size<=g)/\Ex w w'
def Val(w:World)(v:Value)(e:Ending)(w':World):Prop:=e= .returned v/\Ex w w'
end Go.Sy
namespace Go.Sy
open Go Go.RowKit
def AL(P:Program)(t j:Nat):Option Nat:=
 match P.underlying t with
 | some (.struct fs)=>match fs[j]? with
  | some f=>match P.info? f.type with
   |some i=>if i.size=0 then none else some f.offset
   |none=>none
  |none=>none
 |_=>none
def D9(P:Program)(t:Nat):Bool:=
 match P.underlying t with
 |some (.struct _)|some (.array _ _)|none=>false
 |some _=>true
def DV(P:Program)(t:Nat):Option Nat:=
 match P.underlying t with
 |some (.struct _)=>(P.info? t).map (·.size)
 |_=>none
def CS(P:Program)(t:Nat):Option Nat:=(P.info? t).map (·.size)
def BV(P:Program)(t:Nat):Option Value:=(P.info? t).bind (·.zero)
def AT(P:Program)(t:Nat):Option (Nat × Nat × Nat):=
 match P.underlying t with
 |some (.slice e)=>(P.info? e).map λi=>(e,i.size,i.bytes)
 |_=>none
def AA(P:Program)(f:Nat):Bool:=
 match P.funcs[f]? with
 |some fn=> !(fn.name== "runtime.NumGoroutine")&&fn.body.isSome
 |none=>false
def GI:Value->Nat->Addr
 | .slice (some a) _ _,n=>a.add n
 |_,_=>⟨0,0,none⟩
def LN(w:World)(p:Addr)(es:List Value):Prop:=∀(j:Nat) u,es[j]?=some u->w.cell? (p.add j)=some u
theorem add_add(a:Addr)(i j:Nat):(a.add i).add j=a.add (i+j):=by
 unfold Addr.add
 by_cases hi:i=0<;>by_cases hj:j=0<;>simp[hi,hj,Nat.add_assoc]
theorem LN.ext{w w':World}{p:Addr}{es:List Value}(h:LN w p es)(e:Ex w w'):LN w' p es:=λj u a=>Ex.cell e (h j u a)
theorem AC{α:Type} [Gd α] [Tid α]{w:World}{v:Value}{l:List α}{i n:Nat}{x:α}(b:Gd.n α=n)(h:Gd.rd w [v] l)(c:l[i]?=some x):
  ∃es,LN w (GI v (i*n)) es/\Gd.rd w es x:=by
 subst b;obtain⟨a,cap,e,q,p⟩:=h;obtain⟨ad,es,f,k,m⟩:=p i x c;simp only[List.cons.injEq,and_true] at e;subst e;subst f;exact⟨es,λj u g=>by simp only[GI];rw[add_add];exact k j u g,m⟩
def A2w(v:Value)(n:Nat):Prop:=∃a c,v= .slice a n c
theorem AE{α:Type} [Gd α] [Tid α]{w:World}{v:Value}{l:List α}(h:Gd.rd w [v] l):A2w v l.length:=by
 obtain⟨a,cap,e,_⟩:=h;simp only[List.cons.injEq,and_true] at e;exact⟨a,cap,e⟩
theorem rM{α:Type} [Gd α] [Tid α]{w:World}{v:Value}{l:List α}(h:Gd.rd w [v] l):l.length<=9223372036854775807:=by
 obtain⟨a,cap,e,b,_⟩:=h;have:=Nat.le_trans b.1 b.2;simpa [maxLen] using this
theorem lI{α:Type} [Gd α] [Tid α]{w:World}{v:Value}{l:List α}(h:Gd.rd w [v] l)(hp:0<l.length):∃a c,v= .slice (some a) l.length c:=by
 obtain⟨a,cap,e,i,g⟩:=h;obtain⟨x,b⟩:=sL hp;obtain⟨ad,es,f,_⟩:=g 0 x b;simp only[List.cons.injEq,and_true] at e;subst f;exact⟨ad,cap,e⟩
theorem R5{x y:Int}(h:(x !=y)=false):x=y:=by simpa using h
theorem JH{x y:Int}(h:(x==y)=false):x≠y:=by simpa using h
theorem O4{α:Type} [Gd α] [Tid α]{w:World}:Gd.rd w [.slice none 0 0] ([]:List α):=⟨none,0,rfl,by simp[maxLen],λi x h=>by simp at h⟩
section
variable {P:Program} {N:Nat} {w0:World} {H:List Chunk} {L:Fm} {ops:Array Oper} {Q:Exit->Act->World->Prop} {o:Oper} {rest:List Oper} {d:Nat} {K:Act->World->Prop}
theorem DW{t b:TypeId}{x y:Operand}{m n r:Int}(c:o.op= .binOp .add t x y b)(e:ev L x=some (.int .i64 m))(f:ev L y=some (.int .i64 n))
      (g:m+n=r) (h: -9223372036854775808<=r/\r<=9223372036854775807)
     :C2 P N w0 H L o (.int .i64 r):=by
  intro a w hf _;unfold execOp;rw[c];simp only[hf.ev e,hf.ev f];subst g;simp[eqGuard,binOp,Op.intArith,IntWalk.i64_in _ h]
theorem B3{t b:TypeId}{x y:Operand}{m n r:Int}(c:o.op= .binOp .sub t x y b)(e:ev L x=some (.int .i64 m))(f:ev L y=some (.int .i64 n))
      (g:m-n=r) (h: -9223372036854775808<=r/\r<=9223372036854775807)
     :C2 P N w0 H L o (.int .i64 r):=by
  intro a w hf _;unfold execOp;rw[c];simp only[hf.ev e,hf.ev f];subst g;simp[eqGuard,binOp,Op.intArith,IntWalk.i64_in _ h]
theorem nY{t:TypeId}(a:P.underlying t=some .bool)(w:World)(x y:Bool):(Op.equal t (.bool x) (.bool y)).run P w= .ok (x==y) w:=by
 have h:∀d:Nat,(Op.equalIn (d+1) t (.bool x) (.bool y)).run P w= .ok (x==y) w:=λd=>by
  simp[Op.equalIn,run_underlying a]
 simp only[Op.equal,Op.maxDepth];exact h 9999
theorem A2x{t b:TypeId}{x y:Operand}{m n:Bool}(c:P.underlying t=some .bool)(e:o.op= .binOp .neq t x y b)(f:ev L x=some (.bool m))(g:ev L y=some (.bool n))
     
     :C2 P N w0 H L o (.bool (!(m==n))):=by
  intro a w hf _;unfold execOp;rw[e];simp only[hf.ev f,hf.ev g];simp[eqGuard,binOp,nY c]
theorem Dl{t:TypeId}{x:Operand}{v:Value}{n:Nat}{f:Nat × Nat × Nat}(b:AT P t=some f)(g:o.op= .call ⟨.builtin .len, #[x], #[t]⟩)(h:ev L x=some v)
      (i:A2w v n)
     :C2 P N w0 H L o (.int .i64 (n:Int)):=by
  intro a w hf _;obtain⟨ad,c,rfl⟩:=i;unfold AT at b
  split at b
  · rename_i e he
    unfold execOp;rw[g];simp[resolve,invoke,builtin,Builtin.len_,hf.ev h,run_underlying he,goInt]
  · cases b
def bx(g:Nat)(cs:List Value):Chunk where
 ok w fp:=fp=[g]/\∃t,w.heap[g]?=some (.cells cs.toArray t (0,0))
 loc:=λw w' fp h hs=>by
  obtain⟨h1,t,h2⟩:=h;subst h1;exact⟨rfl,t,by rw[hs g (by simp)];exact h2⟩
theorem YH{w w':World}{cs:List Value}{t:TypeId}(h:St w0 H w)(e:w'=w.alloc (.cells cs.toArray t)):St w0 (bx w.heap.size cs::H) w':=by
 subst e;refine h.push (fp:=[w.heap.size]) (Ex.alloc w _) ⟨rfl,t,?_⟩ (by simp) ?_
 ·exact heap_alloc_new w _
 ·intro g hg;simp only[List.mem_singleton] at hg;subst hg;simp
theorem A2y{t:TypeId}{x:Operand}{v:Value}{cs:List Value}(c:o.op= .box t x)(e:ev L x=some v)(hd:o.dst=some d)(f:Nat.blt d N=true)
  (hc:v.cells=cs.toArray) (k:∀g,D N w0 (bx g cs::H) ((d, .pointer (some ⟨g,0,none⟩))::L) K):D N w0 H L (λa w=>o.wp P a w K Q):=by
 refine KQ hd f (λa w h i=>⟨.pointer (some ⟨w.heap.size,0,none⟩),w.alloc (.cells cs.toArray t),?_,λj b=>k _ j _ b (YH i rfl)⟩);unfold execOp;rw[c];simp[Instr.box,newVar,newRow,h.ev e,hc]
theorem vK{t:TypeId}{v:Value}{cs:List Value}(b:BV P t=some v)(e:o.op= .alloc t)(hd:o.dst=some d)(f:Nat.blt d N=true)
  (hc:v.cells=cs.toArray) (k:∀g,D N w0 (bx g cs::H) ((d, .pointer (some ⟨g,0,none⟩))::L) K):D N w0 H L (λa w=>o.wp P a w K Q):=by
 refine KQ hd f (λa w l h=>⟨.pointer (some ⟨w.heap.size,0,none⟩),w.alloc (.cells cs.toArray t),?_,λj c=>k _ j _ c (YH h rfl)⟩);unfold BV at b
 cases hi:P.info? t with
 |none=>rw[hi] at b;simp at b
 | some i=>
  rw[hi] at b;simp only[Option.bind_some] at b;unfold execOp;rw[e];simp[Instr.alloc,zeroValue,typeInfo,hi,b,newVar,newRow,hc]
theorem B2{t j off:Nat}{x:Operand}{p:Addr}(b:AL P t j=some off)(c:o.op= .fieldAddr t x j)(e:ev L x=some (.pointer (some p)))
     :C2 P N w0 H L o (.pointer (some (p.add off))):=by
  intro a w hf _;unfold AL at b
  split at b
  · rename_i fs hu
    split at b
    · rename_i f hfj
      split at b
      · rename_i i hi
        split at b
        · cases b
        · rename_i hne
          simp only[Option.some.injEq] at b;subst b;unfold execOp;rw[c];simp[Instr.fieldAt,run_underlying hu,hfj,Instr.sureAddr,hf.ev e,fieldPlace,sizeOf,typeInfo,hi,hne]
      · cases b
    · cases b
  · cases b
theorem Db{t j off g i q:Nat}{x:Operand}(a:AL P t j=some off)(b:o.op= .fieldAddr t x j)(c:ev L x=some (.pointer (some ⟨g,i,none⟩)))
  (e:i+off=q):C2 P N w0 H L o (.pointer (some ⟨g,q,none⟩)):=by
 have h:=B2 (N:=N) (w0:=w0) (H:=H) a b c;rw[E9,e] at h;exact h
theorem WS{t:TypeId}{p:Addr}{v:Value}{w:World}(a:D9 P t=true)(hc:w.cell? p=some v):(Instr.loadAt t (.pointer (some p))).run P w= .ok v w:=by
 unfold D9 at a
 split at a
 ·cases a
 ·cases a
 ·cases a
 ·rename_i dsc h1 b c hd;have:(isAgg t).run P w= .ok false w:=by
   unfold isAgg;rw[Sem.run_bind,run_underlying hd];simp only[Result.andThen_ok]
   cases dsc<;>first|rfl|(exfalso;exact h1 _ hd)|(exfalso;exact b _ _ hd)
  simp[Instr.loadAt,Instr.sureAddr,loadVar,this,hc]
theorem WT{t:TypeId}{x:Operand}{p:Addr}{v:Value}(b:D9 P t=true)(c:o.op= .load t x)(e:ev L x=some (.pointer (some p)))
  (hc:∀w,St w0 H w->w.cell? p=some v):C2 P N w0 H L o v:=by
 intro a w hf hs;unfold execOp;rw[c];simp[hf.ev e,WS b (hc w hs)]
theorem JU{g i k:Nat}{cs:List Value}{v:Value}(hk:H[k]?=some (bx g cs))(a:cs[i]?=some v)(w:World)(b:St w0 H w):w.cell? ⟨g,i,none⟩=some v:=by
 obtain⟨fp,⟨_,t,c⟩,_⟩:=b.at hk;rw[cell_of_heap c];simpa using a
theorem lb{t:TypeId}{x:Operand}{g i:Nat}{cs:List Value}{v:Value}(k:Nat)(a:D9 P t=true)(b:o.op= .load t x)(c:ev L x=some (.pointer (some ⟨g,i,none⟩)))
  (hk:H[k]?=some (bx g cs)) (e:cs[i]?=some v):C2 P N w0 H L o v:=
 WT a b c (λw f=>JU hk e w f)
theorem N5{t:TypeId}{p:Addr}{es:List Value}{w:World}(a:DV P t=some es.length)(hc:LN w p es):(Instr.loadAt t (.pointer (some p))).run P w= .ok (.agg es.toArray) w:=by
 unfold DV at a
 split at a
 ·rename_i fs hu;simp only[Option.map_eq_some_iff] at a;obtain⟨i,b,hsz⟩:=a;have hl:=run_loadCells_list (P:=P) w p es hc;simp[Instr.loadAt,Instr.sureAddr,loadVar,isAgg,run_underlying hu,sizeOf,typeInfo,b,hsz,hl]
 ·cases a
theorem hJ{t:TypeId}{x:Operand}{p:Addr}{es:List Value}(b:DV P t=some es.length)(c:o.op= .load t x)(e:ev L x=some (.pointer (some p)))
  (hc:∀w,St w0 H w->LN w p es):C2 P N w0 H L o (.agg es.toArray):=by
 intro a w hf hs;unfold execOp;rw[c];simp[hf.ev e,N5 b (hc w hs)]
theorem H2{t:TypeId}{x:Operand}{g i:Nat}{cs es:List Value}(k:Nat)(b:DV P t=some es.length)(c:o.op= .load t x)(e:ev L x=some (.pointer (some ⟨g,i,none⟩)))
  (hk:H[k]?=some (bx g cs)) (f:(cs.drop i).take es.length=es):C2 P N w0 H L o (.agg es.toArray):=by
 refine hJ b c e (λw h j u a=>?_);rw[E9];refine JU hk ?_ w h;rw[<-f,List.getElem?_take] at a
 split at a
 ·rw[List.getElem?_drop] at a;exact a
 ·cases a
theorem C9{t:TypeId}{x:Operand}{g:Nat}{cs:List Value}(k:Nat)(a:DV P t=some cs.length)(b:o.op= .load t x)(c:ev L x=some (.pointer (some ⟨g,0,none⟩)))
  (hk:H[k]?=some (bx g cs)):C2 P N w0 H L o (.agg cs.toArray):=
 H2 k a b c hk (by simp)
theorem IT{g i:Nat}{cur vs:List Value}{t:TypeId}{w:World}(a:w.heap[g]?=some (.cells cur.toArray t (0,0)))(hl:i+vs.length<=cur.length)(h1:∀v∈vs,v.oneCell'=true):
  ∃w',(storeCells ⟨g,i,none⟩ vs).run P w= .ok () w'/\w'.heap[g]?=some (.cells (cur.take i++vs++cur.drop (i+vs.length)).toArray t (0,0))/\Kb [g] w w'/\w'.heap.size=w.heap.size:=by
 have h:=run_storeCells_at (P:=P) g i t vs 0 cur.toArray w a (by simpa using hl) h1;refine⟨_,by simpa using h,?_,?_,?_⟩
 ·simpa using setRow_heap w g cur.toArray (cur.take i++vs++cur.drop (i+vs.length)).toArray t (0,0) a
 ·refine⟨rfl,rfl,rfl,by simp[World.setRow],λk c b=>?_⟩;simp only[List.mem_singleton] at b;simp only[World.setRow,Array.getElem?_modify];rw[if_neg (λe=>b e.symm)]
 ·simp[World.setRow]
theorem AZ{t:TypeId}{x y:Operand}{g i:Nat}{cs vs cs':List Value}{v:Value}(k:Nat)(c:CS P t=some vs.length)(n:o.op= .store t x y)(p:ev L x=some (.pointer (some ⟨g,i,none⟩)))(s:ev L y=some v)(hd:o.dst=none)
  (hk:H[k]?=some (bx g cs)) (z:v.cells=vs.toArray) (h1:∀u∈vs,u.oneCell'=true) (hl:i+vs.length<=cs.length) (hc:cs.take i++vs++cs.drop (i+vs.length)=cs')
  (r:D N w0 (H.set k (bx g cs')) L K):D N w0 H L (λa w=>o.wp P a w K Q):=by
 refine TF hd (λa w l hs=>?_);obtain⟨fp,⟨e,t',hh⟩,hn,hb,j⟩:=hs.set hk;subst e;obtain⟨w',hr,h,kb,hsz⟩:=IT (P:=P) (g:=g) (i:=i) hh hl h1;refine⟨w',?_,λa' f=>r a' w' f (j w' (bx g cs') [g] kb ⟨rfl,t',by rw[<-hc];exact h⟩ hn (λq m=>⟨.inl m,by have:=hb q m;omega⟩))⟩;unfold CS at c;simp only[Option.map_eq_some_iff] at c;obtain⟨ti,hi,b⟩:=c;unfold execOp;rw[n];simp[Instr.storeAt,Instr.sureAddr,storeVar,l.ev p,l.ev s,sizeOf,typeInfo,hi,b,z,hr]
theorem nZ{t:TypeId}{f:Nat × Nat × Nat}{v:Value}{n:Nat}{z:Int}{a:Addr}{c:Nat}{w:World}(b:AT P t=some f)(g:v= .slice (some a) n c)(h0:0<=z)(h1:z<n):
  (Instr.indexAt t v (.int .i64 z)).run P w= .ok (.pointer (some (GI v (z.toNat*f.2.1)))) w:=by
 subst g;unfold AT at b
 split at b
 ·rename_i e he;simp only[Option.map_eq_some_iff] at b;obtain⟨i,j,h⟩:=b;subst h;simp[Instr.indexAt,asIntOf,run_underlying he,h0,h1,sizeOf,typeInfo,j,GI]
 ·cases b
theorem AJ{α:Type} [Gd α] [Tid α]{t:TypeId}{e n b:Nat}{x i:Operand}{v:Value}{l:List α}{j:Nat}{z:Int}(f:AT P t=some (e,n,b))(g:o.op= .indexAddr t x i)(h:ev L x=some v)(k:ev L i=some (.int .i64 z))
    (m:∀w,St w0 H w->Gd.rd w [v] l) (p:z=(j:Int)) (q:j<l.length)
     :C2 P N w0 H L o (.pointer (some (GI v (j*n)))):=by
  intro a w hf hs;obtain⟨ad,c,r⟩:=lI (m w hs) (by omega);unfold execOp;rw[g];simp only[hf.ev h,hf.ev k];rw[Sem.run_bind,nZ f r (by omega) (by omega)];subst p;simp
theorem lr{t:TypeId}{x:Operand}{p:Addr}{es:List Value}{v:Value}{j:Nat}(a:D9 P t=true)(b:o.op= .load t x)(c:ev L x=some (.pointer (some (p.add j))))
  (e:LN w0 p es) (f:es[j]?=some v):C2 P N w0 H L o v:=
 WT a b c (λ_ g=>Ex.cell g.bel (e j v f))
theorem add_zero(p:Addr):p.add 0=p:=by simp[Addr.add]
theorem HI{t:TypeId}{x:Operand}{p:Addr}{es:List Value}{v:Value}(a:D9 P t=true)(b:o.op= .load t x)(c:ev L x=some (.pointer (some p)))
  (e:LN w0 p es) (f:es[0]?=some v):C2 P N w0 H L o v:=
 WT a b c (λ_ g=>by have:=Ex.cell g.bel (e 0 v f);rwa [add_zero] at this)
theorem EX{t:TypeId}{x:Operand}{p:Addr}{es:List Value}(a:DV P t=some es.length)(b:o.op= .load t x)(c:ev L x=some (.pointer (some p)))
  (e:LN w0 p es):C2 P N w0 H L o (.agg es.toArray):=
 hJ a b c (λ_ f=>e.ext f.bel)
theorem K7{σ:Type}{f:Nat}{C4k:List Operand}{vs:List Value}{g:Array TypeId}{val:σ->Value}{H':σ->List Chunk}{J:σ->Prop}(hb:AA P f=true)
  (n:o.op= .call ⟨.value (.func f),C4k.toArray,g⟩) (p:evs L C4k=some vs) (hd:o.dst=some d) (q:Nat.blt d N=true)
  (hc:∀w,St w0 H w->Calls P f vs.toArray w λe w'=>∃s,e= .returned (val s)/\J s/\St w0 (H' s) w')
  (k:∀s,J s->D N w0 (H' s) ((d,val s)::L) K):D N w0 H L (λa w=>o.wp P a w K Q):=by
 intro a w hf hs;show o.wp P a w K Q;unfold AA at hb
 split at hb
 ·rename_i fn hfn;simp only[Bool.and_eq_true,Bool.not_eq_true'] at hb;have c:(execOp a.eval o).run P w= .ok (.enter f vs.toArray) w:=by
   unfold execOp;rw[n];have b:fn.body.isNone=false:=by rw[<-Option.not_isSome,hb.2];rfl
   have i:(C4k.toArray.map a.eval)=vs.toArray:=by rw[List.map_toArray,hf.evs p]
   have h:a.eval (.func f)= .func (.func f) #[] #[]:=rfl;simp only[resolve,h,Deferred.ofValue,i,Sem.run_bind,Sem.run_pure,Result.andThen_ok,invoke,callFunc,program];have j:¬fn.name= "runtime.NumGoroutine" :=by simpa using hb.1
   have l:¬fn.body=none:=by intro e;rw[e] at b;cases b
   simp[Sem.run,hfn,j,l]
  unfold Oper.wp;rw[c,Oper.upon_enter];refine(hc w hs).mono λe w' i=>?_
  obtain⟨s,rfl,r,m⟩:=i;simp only;rw[hd];exact k s r _ _ (hf.put q _) m
 ·cases hb
theorem cv{f:Nat}{C4k:List Operand}{vs:List Value}{b:Array TypeId}{v:Value}(hb:AA P f=true)
  (e:o.op= .call ⟨.value (.func f),C4k.toArray,b⟩) (g:evs L C4k=some vs) (hd:o.dst=some d) (h:Nat.blt d N=true)
  (hc:∀w,St w0 H w->Calls P f vs.toArray w (Val w v))
  (k:D N w0 H ((d,v)::L) K):D N w0 H L (λa w=>o.wp P a w K Q):=
 K7 (σ:=Unit) (val:=λ_=>v) (H':=λ_=>H) (J:=λ_=>True) hb e g hd h
  (λw c=>(hc w c).mono λ_ _ ⟨he,hx⟩=>⟨(),he,trivial,c.ext hx⟩) (λ_ _=>k)
theorem cr{α:Type} [Gd α]{f:Nat}{C4k:List Operand}{vs:List Value}{b:Array TypeId}{x:α}(hb:AA P f=true)
  (i:o.op= .call ⟨.value (.func f),C4k.toArray,b⟩) (j:evs L C4k=some vs) (hd:o.dst=some d) (l:Nat.blt d N=true)
  (hc:∀w,St w0 H w->Calls P f vs.toArray w (HH w x))
  (k:∀cs,D N w0 (ov cs x::H) ((d,Gd.vl α cs)::L) K):D N w0 H L (λa w=>o.wp P a w K Q):=
 K7 (σ:=List Value) (val:=λcs=>Gd.vl α cs) (H':=λcs=>ov cs x::H) (J:=λ_=>True) hb i j hd l
  (λw e=>(hc w e).mono λ_ _ ⟨cs,fp,he,how,hn,hb,hx⟩=>⟨cs,he,trivial,e.push hx (c:=ov cs x) how hn (λg h=>⟨hb g h,Gd.ow_lt how g h⟩)⟩) (λcs _=>k cs)
theorem Cq{x y:Code}(h:D N w0 H L (x.wp P (Exit.then (y.wp P Q) Q))):D N w0 H L ((Code.seq x y).wp P Q):=λa w b c=>wp_seq (h a w b c)
theorem Cr{b:Nat}{l:List Oper}(h:D N w0 H L (wpList P l.toArray Q l)):D N w0 H L ((Code.region b l.toArray false).wp P Q):=λa w c e=>wp_region_lit (h a w c e)
theorem Sr{y:Code}{a:Nat}{l:List Oper}(h:D N w0 H L (wpList P l.toArray (Exit.then (y.wp P Q) Q) l)):D N w0 H L ((Code.seq (Code.region a l.toArray false) y).wp P Q):=Cq (Cr h)
theorem Cb{b:Nat}{c:Code}(h:D N w0 H L (c.wp P (Exit.inBlock b Q))):D N w0 H L ((Code.block b c).wp P Q):=λa w e f=>wp_block (h a w e f)
theorem Ck(h:D N w0 H L (Q .normal)):D N w0 H L (Code.skip.wp P Q):=λa w b c=>wp_skip (h a w b c)
theorem Ct(h:D N w0 H L (Q .ret)):D N w0 H L (Code.ret.wp P Q):=λa w b c=>wp_ret (h a w b c)
theorem Cx{b:Nat}(h:D N w0 H L (Q (.exit b))):D N w0 H L ((Code.exit b).wp P Q):=λa w c e=>wp_exit (h a w c e)
theorem Ci{c:Operand}{x y:Code}(b:Bool)(hc:ev L c=some (.bool b))(i:b=true->D N w0 H L (x.wp P Q))(e:b=false->D N w0 H L (y.wp P Q)):D N w0 H L ((Code.cond c x y).wp P Q):=
 λa w f g=>wp_cond_split (f.ev hc) (λh=>i h a w f g) (λh=>e h a w f g)
theorem I4{c:Operand}{x y:Code}{b:Bool}(hc:ev L c=some (.bool b))(e:b=true)(h:D N w0 H L (x.wp P Q)):D N w0 H L ((Code.cond c x y).wp P Q):=λa w f g=>wp_cond_true (e▸f.ev hc) (h a w f g)
theorem aM{c:Operand}{x y:Code}{b:Bool}(hc:ev L c=some (.bool b))(e:b=false)(h:D N w0 H L (y.wp P Q)):D N w0 H L ((Code.cond c x y).wp P Q):=λa w f g=>wp_cond_false (e▸f.ev hc) (h a w f g)
theorem TI{b:Bool}(h:b=true):(!b)=false:=by rw[h];rfl
theorem VJ{b:Bool}(h:b=false):(!b)=true:=by rw[h];rfl
theorem YI{a b c:Int}(h:a=b)(e:(b==c)=false):(a==c)=false:=by rw[h];exact e
theorem GF{c:Operand}{x y:Code}(hc:ev L c=some (.bool true))(h:D N w0 H L (x.wp P Q)):D N w0 H L ((Code.cond c x y).wp P Q):=λa w b e=>wp_cond_true (b.ev hc) (h a w b e)
theorem G7{c:Operand}{x y:Code}(hc:ev L c=some (.bool false))(h:D N w0 H L (y.wp P Q)):D N w0 H L ((Code.cond c x y).wp P Q):=λa w b e=>wp_cond_false (b.ev hc) (h a w b e)
theorem Xt{K:Act->World->Prop}(h:D N w0 H L K):D N w0 H L (Exit.then K Q .normal):=h
theorem Sk{K:Act->World->Prop}(h:D N w0 H L K):D N w0 H L (Code.skip.wp P (Exit.then K Q)):=Ck h
theorem Xr{K:Act->World->Prop}(h:D N w0 H L (Q .ret)):D N w0 H L (Exit.then K Q .ret):=h
theorem Xx{K:Act->World->Prop}{i:Nat}(h:D N w0 H L (Q (.exit i))):D N w0 H L (Exit.then K Q (.exit i)):=h
theorem Xb{i:Nat}(h:D N w0 H L (Q .normal)):D N w0 H L (Exit.inBlock i Q .normal):=h
theorem Xq{i:Nat}(h:D N w0 H L (Q .ret)):D N w0 H L (Exit.inBlock i Q .ret):=h
theorem Xe{i:Nat}(h:D N w0 H L (Q .normal)):D N w0 H L (Exit.inBlock i Q (.exit i)):=λa w b c=>by
 simp only[Exit.inBlock,if_true];exact h a w b c
theorem FV{fn:Func}{R:Ending->World->Prop}{t:Tmp}{v:Value}(c:fn.results= #[.tmp t])(e:look L t=some v)(h:∀w,St w0 H w->R (.returned v) w):D N w0 H L (bodyPost P fn R .ret):=
 λa w b f=>by
  refine bodyPost_ret (results_tmp c _ _ _) b.dfr ?_;rw[b.at_ t v e];exact h w f
theorem Rb{fn:Func}{t:Tmp}{b a:Bool}(c:fn.results= #[.tmp t])(f:look L t=some (.bool b))(e:b=a):D N w0 H L (bodyPost P fn (Val w0 (.bool a)) .ret):=FV c f λ_ g=>⟨congrArg (λz=>Ending.returned (Value.bool z)) e,g.bel⟩
theorem Ri{fn:Func}{t:Tmp}{b a:Int}(c:fn.results= #[.tmp t])(f:look L t=some (.int .i64 b))(e:b=a):D N w0 H L (bodyPost P fn (Val w0 (.int .i64 a)) .ret):=FV c f λ_ g=>⟨congrArg (λz=>Ending.returned (Value.int .i64 z)) e,g.bel⟩
theorem Rs{fn:Func}{t:Tmp}{b a:ByteArray}(c:fn.results= #[.tmp t])(f:look L t=some (.string b))(e:b=a):D N w0 H L (bodyPost P fn (Val w0 (.string a)) .ret):=FV c f λ_ g=>⟨congrArg (λz=>Ending.returned (Value.string z)) e,g.bel⟩
end
def WU:Nat->List Value->Fm
 |_,[]=> []
 |i,v::vs=>(i,v)::WU (i+1) vs
theorem O5:∀(vs:List Value) (i j:Nat) (v:Value),look (WU i vs) j=some v->i<=j/\vs[j-i]?=some v
 | [],i,j,v,h=>by simp[WU,look] at h
 | u::vs,i,j,v,h=>by
  simp only[WU,look] at h
  cases hb:Nat.beq i j with
  | true=>
   have e:i=j:=Nat.eq_of_beq_eq_true hb;subst e;rw[hb] at h;simpa using h
  | false=>
   have e:i≠j:=Nat.ne_of_beq_eq_false hb;rw[hb] at h;obtain⟨h1,a⟩:=O5 vs (i+1) j v h;refine⟨by omega,?_⟩;have:j-i=(j-(i+1))+1:=by omega
   rw[this];simpa using a
theorem enter{P:Program}{f:Nat}{fn:Func}{c:Code}{vs:List Value}{w:World}{R:Ending->World->Prop}(N:Nat)(e:P.funcs[f]?=some fn)(hb:fn.body=some c)(g:fn.ntmps=N)(hl:Nat.ble vs.length N=true)
  (h:D N w [] (WU 0 vs) (c.wp P (bodyPost P fn R))):Calls P f vs.toArray w R:=by
 refine calls_of_wp e hb (h _ _ ?_ (St.start w));have j:=Nat.le_of_ble_eq_true hl;refine⟨rfl,by simp[g];omega,λi v k=>?_⟩;obtain⟨_,a⟩:=O5 vs 0 i v k;simp only[Nat.sub_zero] at a;have b:=lS a;simp only[Array.getD_eq_getD_getElem?];rw[Array.getElem?_append_left (by simpa using b)];simp[a]
theorem Cl{P:Program}{N:Nat}{w0:World}{H:List Chunk}{L:Fm}{c:Code}{Q:Exit->Act->World->Prop}(I:Nat->Act->World->Prop)(h0:D N w0 H L (λa w=>∃m,I m a w))
  (round:∀m a w,I m a w->c.wp P (Exit.then (λi w'=>∃p,p<m/\I p i w') Q) a w):D N w0 H L ((Code.loop c).wp P Q):=by
 intro a w hf hs b k cs;obtain⟨m,y⟩:=h0 a w hf hs;have key:∀m a w,I m a w->∃e i w',Q e i w'/\Arrives P (lone (b.at a (.code c:: .inLoop c::k)) cs w) b k cs e i w':=by
  intro m
  induction m using Nat.strongRecOn with
  | _ m ih=>
   intro a w hI;obtain⟨e,j,n,g,f⟩:=round m a w hI b (.inLoop c::k) cs
   cases e with
   | normal=>
    obtain⟨p,r,q⟩:=g;obtain⟨t,u,v,s,h⟩:=ih p r j n q;exact⟨t,u,v,s, .of_steps (Steps.trans f (.one step_inLoop)) h⟩
   |exit id=>exact⟨_,j,n,g, .pass (x:= .inLoop c) rfl (λ_ _=> .inl (by simp)) f⟩
   |goto l=>exact⟨_,j,n,g, .pass (x:= .inLoop c) rfl (λ_ _=> .inl (by simp)) f⟩
   |ret=>exact⟨_,j,n,g, .pass (x:= .inLoop c) rfl (λ_ _=> .inl (by simp)) f⟩
   |panic ch=>exact⟨_,j,n,g, .pass (x:= .inLoop c) rfl (λ_ _=> .inl (by simp)) f⟩
   |outgrown=>exact⟨_,j,n,g, .pass (x:= .inLoop c) rfl (λ_ _=> .inl (by simp)) f⟩
 obtain⟨e,i,w',g,f⟩:=key m a w y;exact⟨e,i,w',g, .of_steps (.one step_loop) f⟩
end Go.Sy
namespace Go.Sy
open Go Go.RowKit
section
variable {P:Program} {N:Nat} {w0:World} {H:List Chunk} {L:Fm} {ops:Array Oper} {Q:Exit->Act->World->Prop} {o:Oper} {rest:List Oper} {d:Nat} {K:Act->World->Prop}
theorem Dp{φ:Prop}(h:∀w,St w0 H w->φ)(k:φ->D N w0 H L K):D N w0 H L K:=λa w c b=>k (h w b) a w c b
theorem MX{α:Type} [Gd α] [Tid α]{w:World}:Gd.ow w [.slice none 0 0] ([]:List α) []:= .inl ⟨rfl,rfl,rfl⟩
theorem St.nul{w:World}{c:Chunk}(h:St w0 H w)(hc:c.ok w []):St w0 (c::H) w:=
 h.push (fp:=[]) (Ex.refl w) hc List.nodup_nil (λg a=>by cases a)
theorem CG{α:Type} [Gd α] [Tid α](k:D N w0 (ov [.slice none 0 0] ([]:List α)::H) L K):D N w0 H L K:=
 λa w b e=>k a w b (e.nul (c:=ov [.slice none 0 0] ([]:List α)) MX)
theorem fB{α:Type} [Fl α](y:α)(k:D N w0 (ov [Fl.enc y] y::H) L K):D N w0 H L K:=
 λa w b e=>k a w b (e.nul (c:=ov [Fl.enc y] y) ⟨rfl,rfl⟩)
theorem A7{α:Type} [Gd α]{w:World}{k:Nat}{cs:List Value}{x b:α}(c:St w0 H w)(hk:H[k]?=some (ov cs b))(e:b=x):HH w0 x (.returned (Gd.vl α cs)) w:=by
 subst e;obtain⟨fp,a,i,h⟩:=c.at hk;exact⟨cs,fp,rfl,a,i,λg f=>(h g f).1,c.bel⟩
theorem YJ{α:Type} [Gd α] [Tid α]{f:Nat}{C4k:List Operand}{vs:List Value}{b:Array TypeId}{l:List α}(hb:AA P f=true)
  (c:o.op= .call ⟨.value (.func f),C4k.toArray,b⟩) (g:evs L C4k=some vs) (hd:o.dst=some d) (h:Nat.blt d N=true)
  (hc:∀w,St w0 H w->Calls P f vs.toArray w (HH w l))
  (k:∀v,D N w0 (ov [v] l::H) ((d,v)::L) K):D N w0 H L (λa w=>o.wp P a w K Q):=by
 refine cr hb c g hd h hc λcs=>?_
 refine Dp (λw i=>(show∃v,cs=[v] from ?_)) ?_
 ·obtain⟨a,cap,e,_⟩:=rO (k:=0) i rfl;exact⟨_,e⟩
 ·rintro⟨v,rfl⟩;exact k v
theorem zE{α:Type} [Gd α]{f:Nat}{C4k:List Operand}{vs:List Value}{b:Array TypeId}{x:α}(c:Gd.st α=true)(hb:AA P f=true)
  (e:o.op= .call ⟨.value (.func f),C4k.toArray,b⟩) (g:evs L C4k=some vs) (hd:o.dst=some d) (h:Nat.blt d N=true)
  (hc:∀w,St w0 H w->Calls P f vs.toArray w (HH w x))
  (k:∀cs,D N w0 (ov cs x::H) ((d, .agg cs.toArray)::L) K):D N w0 H L (λa w=>o.wp P a w K Q):=by
 refine cr hb e g hd h hc λcs=>?_
 unfold Gd.vl;rw[c];exact k cs
theorem eW{fn:Func}{R:Ending->World->Prop}{t:Tmp}{ty:TypeId}{g:Nat}{cs:List Value}(k:Nat)(i:DV P ty=some cs.length)(l:fn.results= #[.cell t ty])(m:look L t=some (.pointer (some ⟨g,0,none⟩)))
  (hk:H[k]?=some (bx g cs)) (h:∀w,St w0 H w->R (.returned (.agg cs.toArray)) w):D N w0 H L (bodyPost P fn R .ret):=
 λa w c f=>by
  have b:LN w ⟨g,0,none⟩ cs:=λj u n=>by
   rw[E9,Nat.zero_add];exact JU hk n w f
  have hl:=N5 i b;refine bodyPost_ret (v:= .agg cs.toArray) ?_ c.dfr (h w f);have e:=c.at_ t _ m;simp only[Instr.loadAt,Instr.sureAddr,Sem.run_bind,Sem.run_pure,Result.andThen_ok] at hl;rw[Array.getD_eq_getD_getElem?] at e;simp only[results,l];simp[e,hl,asAddr]
theorem owF{α:Type} [Fl α] [Tid α]{w:World}{v:Value}{l:List α}{fp:List Nat}(h:Gd.ow w [v] l fp):
  (v= .slice none 0 0/\l=[]/\fp=[])\/∃g cap cur,v= .slice (some ⟨g,0,none⟩) l.length cap/\w.heap[g]?=some (.cells cur (Tid.id α) (0,0))/\l.length<=cap/\cap<=maxLen/\
   cur.size=cap/\fp=[g]/\∀(i:Nat) (x:α),l[i]?=some x->cur[i]?=some (Fl.enc x):=by
 rcases h with ⟨h1,e,j⟩|⟨g,cap,cur,fps,h1,e,j,q,r,s,n,t⟩
 ·simp only[List.cons.injEq,and_true] at h1;exact .inl ⟨h1,e,j⟩
 ·simp only[List.cons.injEq,and_true] at h1;have k:cur.size=cap:=by rw[r];show cap*1=cap;omega
  have b:∀(i:Nat) (x:α),l[i]?=some x->cur[i]?=some (Fl.enc x)/\fps[i]?=some []:=λi x a=>by
   obtain⟨f,c⟩:=sL (l:=fps) (i:=i) (by rw[n];exact lS a);obtain⟨u,y⟩:=t i x f a c;refine⟨?_,by rw[c,y]⟩;have:((cur.toList.drop (i*1)).take 1)[0]?=some (Fl.enc x):=by
    have m:(cur.toList.drop (i*1)).take 1=[Fl.enc x]:=u;rw[m];rfl
   rw[List.getElem?_take,if_pos (by omega),List.getElem?_drop] at this;simpa using this
  refine .inr ⟨g,cap,cur,h1,e,j,q,k,?_,λi x a=>(b i x a).1⟩;rw[s];have:fps.flatten=[]:=by
   rw[List.flatten_eq_nil_iff];intro f c;obtain⟨i,p⟩:=List.getElem?_of_mem c;obtain⟨x,a⟩:=sL (l:=l) (i:=i) (by rw[<-n];exact lS p);have:=(b i x a).2;rw[p] at this;simpa using this
  rw[this]
theorem YK{α:Type} [Fl α] [Tid α]{w:World}{l:List α}{g cap:Nat}{cur:Array Value}(e:w.heap[g]?=some (.cells cur (Tid.id α) (0,0)))(h:l.length<=cap)(j:cap<=maxLen)(k:cur.size=cap)
  (m:∀(i:Nat) (x:α),l[i]?=some x->cur[i]?=some (Fl.enc x)):Gd.ow w [.slice (some ⟨g,0,none⟩) l.length cap] l [g]:=by
 refine .inr ⟨g,cap,cur,List.replicate l.length [],rfl,e,h,j,by rw[k];show cap=cap*1;omega,?_,by simp,λi x f p n=>?_⟩
 ·simp
 ·have c:f=[]:=by
   have:=List.mem_of_getElem? n;exact List.eq_of_mem_replicate this
  refine⟨?_,c⟩;have h1:=m i x p;show(cur.toList.drop (i*1)).take 1=[Fl.enc x];have b:i<cur.toList.length:=by
   have:=(Array.getElem?_eq_some_iff.1 h1).1;simpa using this
  rw[Nat.mul_one,List.drop_eq_getElem_cons b];have a:cur.toList[i]?=some (Fl.enc x):=by simpa using h1
  rw[List.getElem?_eq_getElem b] at a;simp only[Option.some.injEq] at a;rw[a];rfl
theorem B7{α:Type} [Gd α] [Tid α]{t:TypeId}{x:Operand}{v:Value}{l:List α}{c:Nat × Nat × Nat}(k:Nat)(e:AT P t=some c)(f:o.op= .call ⟨.builtin .len, #[x], #[t]⟩)(g:ev L x=some v)
  (hk:H[k]?=some (ov [v] l)):C2 P N w0 H L o (.int .i64 (l.length:Int)):=λa w h b=>
 Dl (N:=N) (w0:=w0) (H:=H) e f g (AE (rO b hk)) a w h b
theorem lo{α:Type} [Fl α] [Tid α]{t:TypeId}{x:Operand}{v:Value}{l:List α}{j:Nat}{y:α}(k:Nat)(c:D9 P t=true)(e:o.op= .load t x)(f:ev L x=some (.pointer (some (GI v (j*1)))))
  (hk:H[k]?=some (ov [v] l)) (g:l[j]?=some y):C2 P N w0 H L o (Fl.enc y):=by
 refine WT c e f (λw h=>?_);obtain⟨es,b,i⟩:=AC (n:=1) rfl (rO h hk) g;have a:es=[Fl.enc y]:=i;subst a;have:=b 0 (Fl.enc y) rfl
 rwa [add_zero] at this
theorem so{α:Type} [Fl α] [Tid α]{t:TypeId}{x y:Operand}{v:Value}{l:List α}{j:Nat}{z:α}(k:Nat)(hz:CS P t=some 1)(ho:o.op= .store t x y)(hx:ev L x=some (.pointer (some (GI v (j*1)))))(hy:ev L y=some (Fl.enc z))(hd:o.dst=none)
  (hk:H[k]?=some (ov [v] l)) (hj:j<l.length) (r:D N w0 (H.set k (ov [v] (l.set j z))) L K):D N w0 H L (λa w=>o.wp P a w K Q):=by
 refine TF hd (λa w hf hs=>?_);obtain⟨fp,a3,hn,hb,a2⟩:=hs.set hk
 rcases owF a3 with ⟨_,h2,_⟩|⟨g,cap,cur,h1,h2,h3,h4,h5,h6,h8⟩
 ·rw[h2] at hj;simp at hj
 ·subst h6;subst h1;have b:(Fl.enc z).oneCell'=true:=Fl.one z;have p:cur.toList.toArray=cur:=by simp
  obtain⟨w',hr,a1,kb,hsz⟩:=IT (P:=P) (g:=g) (i:=j) (cur:=cur.toList) (vs:=[Fl.enc z]) (t:=Tid.id α) (w:=w) (by rw[p];exact h2) (by simp;omega) (by simpa using b);refine⟨w',?_,λa' a0=>r a' w' a0 (a2 w' (ov [.slice (some ⟨g,0,none⟩) l.length cap] (l.set j z)) [g] kb ?_ (by simp) (λq f=>⟨.inl f,by have:=hb q f;omega⟩))⟩
  ·have c:(Fl.enc z).cells= #[Fl.enc z]:=by
    generalize Fl.enc z=u at b
    cases u<;>first|rfl|cases b
   unfold CS at hz;simp only[Option.map_eq_some_iff] at hz;obtain⟨ti,s,h⟩:=hz;have n:GI (.slice (some ⟨g,0,none⟩) l.length cap) (j*1)=⟨g,j,none⟩:=by simp[GI,E9]
   have m:=hf.ev hx;rw[n] at m;unfold execOp;rw[ho];simp[Instr.storeAt,Instr.sureAddr,storeVar,m,hf.ev hy,sizeOf,typeInfo,s,h,c,hr]
  ·have hl:(l.set j z).length=l.length:=by simp
   show Gd.ow w' [.slice (some ⟨g,0,none⟩) l.length cap] (l.set j z) [g];rw[<-hl];refine YK a1 (by rw[hl];exact h3) h4 ?_ (λi q f=>?_)
   ·simp;omega
   ·rw[List.getElem?_set] at f
    split at f
    ·rename_i e;subst e;have a4:z=q:=by simpa [hj] using f
     subst a4;simp only[List.getElem?_toArray];rw[List.append_assoc,List.getElem?_append_right (by simp;omega)];have:min j cur.size=j:=by omega
     simp[this]
    ·rename_i hne;have s:=h8 i q f;have a5:=lS f;simp only[List.getElem?_toArray]
     by_cases hlt:i<j
     ·rw[List.append_assoc,List.getElem?_append_left (by simp;omega),List.getElem?_take,if_pos hlt];simpa using s
     ·rw[List.getElem?_append_right (by simp;omega)];simp only[List.length_append,List.length_take,List.length_singleton,Array.length_toList,List.getElem?_drop];have:j+1+(i-(min j cur.size+1))=i:=by omega
      rw[this];simpa using s
end
abbrev nS:Value:=.slice none 0 0
abbrev eS:Value:=.string ⟨#[]⟩
abbrev zEs:List Value:=[nS,nS,.int .i64 0,nS,.bool false,nS]
def C4K(N:Nat)(ops:Array Oper):Nat->Fm->List Oper->Option (Fm × List Oper)
 |0,L,os=>some (L,os)
 |_+1,_,[]=>none
 |n+1,L,o::os=>match lF N ops L o with
  |some (d,v)=>C4K N ops n ((d,v)::L) os
  |none=>match ntp N ops L o with
   |some d=>C4K N ops n ((d,undef)::L) os
   |none=>none
theorem PN{P:Program}{N:Nat}{w0:World}{H:List Chunk}{L a:Fm}{ops:Array Oper}{Q:Exit->Act->World->Prop}{os rest:List Oper}(n:Nat)(h:C4K N ops n L os=some (a,rest))(k:D N w0 H a (wpList P ops Q rest)):D N w0 H L (wpList P ops Q os):=by
 induction n generalizing L os with
 |zero=>cases h;exact k
 |succ n ih=>
  cases os with
  |nil=>cases h
  |cons o os=>
   unfold C4K at h
   split at h
   ·rename_i d v hs;exact p1 hs (ih h)
   ·split at h
    ·rename_i d hs;exact n1 hs (ih h)
    ·cases h
theorem PE{P:Program}{N:Nat}{w0:World}{H:List Chunk}{L a:Fm}{ops:Array Oper}{Q:Exit->Act->World->Prop}{K:Act->World->Prop}{os:List Oper}(n:Nat)(h:C4K N ops n L os=some (a,[]))(k:D N w0 H a K):D N w0 H L (wpList P ops (Exit.then K Q) os):=PN n h k
end Go.Sy
