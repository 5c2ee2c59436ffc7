/-
  What is done by hand, one after the other, reaches an engine that its log plays back.
  Conditions: those that each theorem states.
-/
import Derived.Test.YtbnpgdcpbmaebaaGreatDoorMch
import Derived.Test.YtbnpgdcpbmaebaaGreatDoorDrm
import Derived.Test.YtbnpgdcpbmaebaaGreatDoorTypes
import Derived.Test.YtbnpgdcpbmaebaaGreatDoorOwn2
import Derived.Test.YtbnpgdcpbmaebaaGreatDoorCur
import Derived.Great.BuildSlice
import Derived.Test.YtbnpgdcpbmaebaaGreatDoorFct
import Derived.Test.YtbnpgdcpbmaebaaGreatDoorDrw2
import Derived.Test.YtbnpgdcpbmaebaaGreatDoorMat7
section
namespace Go.Sy
open Go
def C2Y(e:Engine)(v:Event):Engine:=if v.Kind=1 then A8D e v.Fact else if v.Kind=2 then A8E e v.Fact else stE e
def C1I(l:List Event)(e:Engine)(k:Nat):Engine:=(l.take k).foldl C2Y e
theorem Reach.trans{e f g:Engine}(h:Reach e f)(a:Reach f g):Reach e g:=by
 induction h with
 |refl _=>exact a
 |put x _ ih=>exact .put x (ih a)
 |take x _ ih=>exact .take x (ih a)
 |step _ ih=>exact .step (ih a)
theorem C2e{p:Engine->Prop}{f:Engine->Event->Engine}:∀(l:List Event) (e:Engine),(∀e v,v∈l->p e->p (f e v))->p e->p (l.foldl f e)
 | [],_,_,h=>h
 |v::l,e,hs,h=>C2e l (f e v) (λa b hb=>hs a b (by simp[hb])) (hs e v (by simp) h)
section
variable {l:List Event} {e:Engine} {k:Nat} {v:Event}
theorem C2h(h:l[k]?=some v):C2Y (C1I l e k) v=C1I l e (k+1):=by
 unfold C1I;rw[List.take_add_one,h];simp
theorem C3P(h:l[k]?=some v)(hk:v.Kind=1):A8D (C1I l e k) v.Fact=C1I l e (k+1):=by
 rw[<-C2h h];simp[C2Y,hk]
theorem C3Q(h:l[k]?=some v)(hk:v.Kind=2):A8E (C1I l e k) v.Fact=C1I l e (k+1):=by
 rw[<-C2h h];simp[C2Y,hk]
theorem C3R(h:l[k]?=some v)(h1:v.Kind≠1)(a:v.Kind≠2):stE (C1I l e k)=C1I l e (k+1):=by
 rw[<-C2h h];simp[C2Y,h1,a]
theorem C2Z{p:Engine->Prop}(c:∀e v,v∈l->p e->p (C2Y e v))(h:p e)(k:Nat):p (C1I l e k):=C2e _ e (λa b hb=>c a b (List.mem_of_mem_take hb)) h
theorem C3b(h:HT e=true)(k:Nat):HT (C1I l e k)=true:=C2Z (p:=λe=>HT e=true) (λa b _ ha=>by
 unfold C2Y
 split
 ·exact C3V ha
 ·split
  ·exact C3W ha
  ·cases hb:stB a with
   |true=>exact C3a hb
   |false=>rw[<-(A8j hb).1];exact ha) h k
theorem C2v(k:Nat):Reach e (C1I l e k):=C2Z (p:=λf=>Reach e f) (λa b _ ha=>ha.trans (by
 unfold C2Y
 split
 ·exact .put _ (.refl _)
 ·split
  ·exact .take _ (.refl _)
  ·exact .step (.refl _))) (.refl e) k
theorem C3j(h:QC e)(hl:∀v∈l,P9 v.Fact)(k:Nat):QC (C1I l e k):=C2Z (p:=λe=>QC e) (λa b hb ha=>by
 unfold C2Y
 split
 ·exact B3H ha (hl b hb)
 ·split
  ·exact B3I ha (hl b hb)
  ·exact B3E ha) h k
end
theorem C3c{rules:List Rule}{l:List Event}(a:AR rules=true)(hl:∀v∈l,F9 v.Fact<=8)(k:Nat):HT (C1I l (A8M rules) k)=true/\DI (C1I l (A8M rules) k)<=30000/\QC (C1I l (A8M rules) k)/\A8N rules (C1I l (A8M rules) k).Log=C1I l (A8M rules) k/\A8e rules (C1I l (A8M rules) k).Log=true:=by
 have h1:=C3b (l:=l) (C3O a) k;have b:=C2u a (C2v (l:=l) (e:=A8M rules) k);exact⟨h1,B0H h1,C3j (B2f (C2n a).1) (λv hv=>C3X (Nat.le_trans (hl v hv) (by decide))) k,b.1,b.2⟩
end Go.Sy
end
/-
  Drawn results become borrowed: a new base world.
  Conditions: none.
-/
section
namespace Go.Sy
open Go Go.RowKit
section
variable {P:Program} {N:Nat} {w0:World} {H:List Chunk} {L:Fm} {Q:Exit->Act->World->Prop} {o:Oper} {d:Nat} {K:Act->World->Prop}
end
end Go.Sy
end
/-
  Lists of several flat elements, parts of owned lists, results that are only readable.
  Conditions: none.
-/
section
namespace Go.Sy
open Go Go.RowKit
section
variable {P:Program} {N:Nat} {w0:World} {H:List Chunk} {L:Fm} {Q:Exit->Act->World->Prop} {o:Oper} {d:Nat} {K:Act->World->Prop}
def Rd2{α β:Type} [Gd α] [Gd β](w:World)(x:α)(y:β)(e:Ending)(w':World):Prop:=∃c1 c2,e= .returned (.tuple #[Gd.vl α c1,Gd.vl β c2])/\Gd.rd w' c1 x/\Gd.rd w' c2 y/\Ex w w'
theorem C4i{σ:Type}{f:Nat}{C4k:List Operand}{vs:List Value}{b:Array TypeId}{val:σ->Value}{J:σ->World->Prop}(hb:AA P f=true)
  (g:o.op= .call ⟨.value (.func f),C4k.toArray,b⟩) (h:evs L C4k=some vs) (hd:o.dst=some d) (i:Nat.blt d N=true)
  (hc:∀w,St w0 H w->Calls P f vs.toArray w λe w'=>∃s,e= .returned (val s)/\J s w')
  (k:∀s w',J s w'->D N w' [] ((d,val s)::L) K):D N w0 H L (λa w=>o.wp P a w K Q):=by
 intro a w hf hs;show o.wp P a w K Q;unfold AA at hb
 split at hb
 ·rename_i fn hfn;simp only[Bool.and_eq_true,Bool.not_eq_true'] at hb;have hrun:(execOp a.eval o).run P w= .ok (.enter f vs.toArray) w:=by
   unfold execOp;rw[g];have hbody:fn.body.isNone=false:=by rw[<-Option.not_isSome,hb.2];rfl
   have he:(C4k.toArray.map a.eval)=vs.toArray:=by rw[List.map_toArray,hf.evs h]
   have c:a.eval (.func f)= .func (.func f) #[] #[]:=rfl;simp only[resolve,c,Deferred.ofValue,he,Sem.run_bind,Sem.run_pure,Result.andThen_ok,invoke,callFunc,program];have hnm:¬fn.name= "runtime.NumGoroutine" :=by simpa using hb.1
   have hbn:¬fn.body=none:=by intro e;rw[e] at hbody;cases hbody
   simp[Sem.run,hfn,hnm,hbn]
  unfold Oper.wp;rw[hrun,Oper.upon_enter];refine(hc w hs).mono λe w' he=>?_
  obtain⟨s,rfl,hj⟩:=he;simp only;rw[hd];exact k s w' hj _ _ (hf.put i _) (St.start w')
 ·cases hb
theorem C4j{α β:Type} [Gd α] [Gd β]{φ:α->β->Prop}{f:Nat}{C4k:List Operand}{vs:List Value}{b:Array TypeId}(hb:AA P f=true)
  (g:o.op= .call ⟨.value (.func f),C4k.toArray,b⟩) (h:evs L C4k=some vs) (hd:o.dst=some d) (i:Nat.blt d N=true)
  (hc:∀w,St w0 H w->Calls P f vs.toArray w (λe w'=>∃(x:α) (y:β),φ x y/\Rd2 w x y e w'))
  (k:∀x y c1 c2,φ x y->∀wb,Ex w0 wb->Gd.rd wb c1 x->Gd.rd wb c2 y->D N wb [] ((d, .tuple #[Gd.vl α c1,Gd.vl β c2])::L) K):D N w0 H L (λa w=>o.wp P a w K Q):=
 C4i (σ:=(α × β)×(List Value × List Value)) (val:=λs=> .tuple #[Gd.vl α s.2.1,Gd.vl β s.2.2]) (J:=λs w'=>φ s.1.1 s.1.2/\Ex w0 w'/\Gd.rd w' s.2.1 s.1.1/\Gd.rd w' s.2.2 s.1.2) hb g h hd i
  (λw hs=>(hc w hs).mono λ_ _ ⟨x,y,hp,c1,c2,he,h1,c,hx⟩=>⟨((x,y),(c1,c2)),he,hp,hs.bel.trans hx,h1,c⟩)
  (λs w' ⟨hp,hx,h1,c⟩=>k s.1.1 s.1.2 s.2.1 s.2.2 hp w' hx h1 c)
end
end Go.Sy
end
/-
  Contracts of functions of the program, walked (printed by a program of ours).
  Conditions: those that each theorem states.
-/
section
set_option linter.unusedVariables false
set_option maxRecDepth 20000
namespace Go.Sy.Lawf
open Go Go.RowKit Go.Proofs Go.Sy
open Go.Sy.Bel1 Go.Sy.Ev1 Go.Sy.Fmt1 Go.Sy.Eng1 Go.Sy.Eng2 Go.Sy.Eng3 Go.Sy.Eng4 Go.Sy.Num1 Go.Sy.Num2 Go.Sy.Fal2 Go.Sy.Cho2 Go.Sy.Mat1 Go.Sy.Num3 Go.Sy.Mat2 Go.Sy.Cmp2 Go.Sy.Mat3 Go.Sy.Put1 Go.Sy.Mat5 Go.Sy.Put2 Go.Sy.Ev3 Go.Sy.Mat7 Go.Sy.Par1 Go.Sy.Drw1 Go.Sy.Drw2
theorem B9a{w:World}{a:Value}{code:(List UInt8)}(b:Gd.rd w [a] code):Cy 7 [a] w (Val w (.bool (decide (4096<code.length)))):=by
 have c:=rM b;refine enter 6 Tryz.func7 Y Y Y (Sr (Pe Y (Sr (p1 Y (dl lU Y (AE b) (P2 Y Y (Dx (Ct (Rb Y Y ?_)))))))));show((decide ((4096:Int)<((code.length:Nat):Int))):Bool)=_;simp;omega
theorem C2T{w:World}{a:Value}{code:(List UInt8)}(b:Gd.rd w [a] code):Cy 15 [a] w (λe w'=>∃(ya:List Rule) (yb:List Event),(AR ya=true/\yb.length<=11/\∀v∈yb,F9 v.Fact<=8)/\Rd2 w ya yb e w'):=by
 have a1:=rM b;refine enter 32 Tryz.func15 Y Y Y (Sr (P2 Y Y (Dx (Sr (p1 Y (li Y (ccN A7E Y Y Y Y (λw' hs=>(B7p (rA hs b))) λg2=>?_)))))));refine Pe Y (Dh ([cu g2 a code.length]) Y (Sr (p1 Y (li Y (ccR (α:=List Rule) A6l Y Y Y Y (λw' hs=>C2g _ _ w' g2 a code 3 b (by first|assumption|omega) (by first|assumption|omega) hs) λy3 a2 g=>?_)))));have o:=g.1;have p:=g.2;refine Dp (λw' hs=>CL (rO (k:=0) hs Y)) ?_;rintro⟨v5,rfl⟩;refine MS 12 (v':=v5) Y Y Y (Pe Y (Dh ([ov [v5] (y3:(List Rule)),_]) Y (Sr (li Y (FL (α:=Event) C1U Y Y Y λq=>?_)))));refine Pe Y (Dh ([ov [q] ([]:(List Event)),_,_]) Y (Cq (Sr (p1 Y (AG [2,0,1] Y (li Y (ccI A6r Y Y Y Y (λw' hs=>C1M _ _ w' g2 a code 12 b hs) λy7 i=>?_)))))));have s:=i.1;have t:=i.2;refine Pe Y (Cb (Cl (λm_ ac w'=>∃(nn:Int),∃(l:List Event),∃(v:Value),(0<=nn)/\((l.length:Int)+nn<=11)/\(∀v∈l,F9 v.Fact<=8)/\m_=nn.toNat/\Fits ac 32 [(4,(pv g2)),(5,v5),(6,v),(7,(iv nn))]/\St w ([cu g2 a code.length,ov [v] (l:(List Event)),ov [v5] (y3:(List Rule))]) w') ?_ ?_))
 ·refine A3 1 Y (show([]:(List Event))=([]) from by first|rfl|simp|(simp;omega)) (λac w' hf hs=>⟨_,y7,[],q,?_,?_,?_,Y,hf.wk Y,hs⟩)
  ·first|assumption|omega|simp
  ·simp;omega
  ·exact λv h=>by cases h
 ·rintro m_ ac w' ⟨nn,l,v,a3,hl,hsm,rfl,hf,hs⟩;refine D.use ?_ hf hs;clear hf hs ac w';refine Cq (Sr (P2 Y Y (Dx (Dh ([_,_,_]) Y (Cd Y (λn=>?_) (λn=>?_))))))
  ·refine Sk (Cq (Cb (Sr (p1 Y (li Y (oO (α:=Int) (xs:=[.const (iv (1)), .const (iv (1)), .const (iv (1)), .const (iv (2)), .const (iv (3))]) (ys:=[1,1,1,2,3]) AU vH Y Y Y Y (by decide) (by decide) Y Y λv9=>?_))))));refine AG [1,0,2,3] Y (li Y (ccI A6s Y Y Y Y (λw' hs=>B5F _ _ w' g2 a code v9 ([1,1,1,2,3]) b (λw' hs=>(rO (k:=1) hs Y)) (by decide) hs) λd u=>?_));refine Pe Y (Dh ([_,ov [v9] ([1,1,1,2,3]:(List Int)),_,_]) Y (Cr (P3 Y Y Y (li Y (ccR (α:=Fact) B3s Y Y Y Y (λw' hs=>B6U _ _ w' g2 a code b hs) λc z j=>?_)))));refine Dp (λw' hs=>EZ (rO (k:=0) hs Y)) ?_;rintro⟨f,rfl,a0⟩;refine MS 26 (v':=(.agg #[(.string c.Rel),f])) Y Y Y (q1 Y (FJ (vs:=[(0,(iv d)),(2,(.agg #[(.string c.Rel),f]))]) (xs:=[(0,[(iv d)]),(2,[(.string c.Rel),f])]) (cs:=[(iv d),(.string ⟨#[]⟩),(.string c.Rel),f]) C3d Y ⟨Y,Y,⟨Y,Y,trivial⟩⟩ Y Y) (li Y (FF C1U C2V Y (by decide) (by decide) Y Y Y Y Y Y λg15=>?_)));refine AG [1,0,2,3,4,5] Y (BB (α:=ByteArray) (β:=(List ByteArray)) (c1:=[(.string c.Rel)]) (c2:=[f]) (x:=c.Rel) (y:=(c.Args)) Y Y (BZ [] 1 Y (aS (r:=(⟨d,⟨#[]⟩,c⟩:Event)) (AG [4,0,1,2,3,5] Y (li Y (GZ C1U C2V Y (by decide) Y Y Y Y Y Y (by first|omega|(simp;omega)) (by first|omega|(simp;omega)) λm=>?_))))));refine p1 Y (De (Xb (Xt (Dh ([ov [m] (l++ [(⟨d,⟨#[]⟩,c⟩:Event)]:(List Event)),_,_,_]) Y (Cr (p1 Y (q1 Y (B3 Y Y Y Y (by omega)) (Pe Y (A3 0 Y (show(l++ [(⟨d,⟨#[]⟩,c⟩:Event)]:(List Event))=(l++ [(⟨d,⟨#[]⟩,c⟩:Event)]) from by first|rfl|simp|(simp;omega)) (λac w' hf hs=>⟨_,?_,(nn-1),l++ [(⟨d,⟨#[]⟩,c⟩:Event)],m,?_,?_,?_,Y,hf.wk Y,hs.pk [1,0,3] Y Y⟩))))))))))
   ·omega
   ·first|assumption|omega|simp
   ·simp;omega
   ·exact B6E hsm (by show F9 c<=8;exact j.1)
  ·refine Cx (Xx (Xx (Xe (Xt (Sr (P3 Y Y Y (Pe Y (Ct (DL Y (D8 Y) (D8 Y) λw' hs=>⟨y3,l,?_,[v5],[v],Y,(rO (k:=2) hs Y),(rO (k:=1) hs Y),hs.bel⟩)))))))));exact⟨g.1,by omega,hsm⟩
set_option maxHeartbeats 8000000 in
theorem laws_FnReplayed(w:World)(g:Value)(code:(List UInt8))(d:Gd.rd w [g] code)(s:Tb w):Cy 4 [g] w (Val w (.bool (true))):=by
 have bo:=rM d;refine enter 81 Tryz.func4 Y Y Y (Sr (Pe Y (Cq (Sr (p1 Y (qv b_7 Y (λw' hs=>(B9a (rA hs d))) (Dx (Ci _ Y (λh2=>?_) (λh2=>?_)))))))))
 ·refine Sr (Pe Y (Ct (Xr (Rb Y Y ?_))))
  first|rfl|(exfalso;simp_all;done)|(simp only[hre,hall.2.2.2.2,hall.1];simp;done)|(simp_all;done)
 ·refine Sk (Sr (p1 Y (li Y (C4j (α:=List Rule) (β:=List Event) B4V Y Y Y Y (λw' hs=>(C2T (rA hs d))) λy3 y4 bp bq t ay b h a=>?_))));have b4:=Gd.rd_ext b d;obtain⟨v12,rfl⟩:=CL h;have b5:=rM h;obtain⟨x,rfl⟩:=CL a;have b6:=rM a;refine MS 14 (v':=(.tuple #[v12,x])) Y Y Y (P3 Y Y Y (P2 Y Y (Dx (Cq ?_))));have az:=t.1;have b0:=t.2.2;have hrk:=C2n az;refine Cr (p1 Y (qc2 B4U Y (λw' hs=>(B0Y (rA hs h) (Nat.le_trans hrk.2 (by decide)))) λb7 y=>?_));refine Dp (λw' hs=>H5 (rO (k:=0) hs Y)) ?_;rintro⟨i,m,v20,v21,rfl,a0,a1,a2,a3⟩;refine Dp (λw' hs=>show y=[(.bool (AR y3))] from rO (k:=1) hs Y) ?_;rintro rfl;refine MS 19 (v':=(.tuple #[(.agg #[i,m,(iv ((A8M y3).Clock)),v20,(.bool ((A8M y3).Halted)),v21]),(.bool (AR y3))])) Y Y Y (AG [0] Y (P3 Y Y Y (aL C2I Y λe=>?_)));refine li Y (AZ (vs:=[i,m,(iv ((A8M y3).Clock)),v20,(.bool ((A8M y3).Halted)),v21]) (cs':=[i,m,(iv ((A8M y3).Clock)),v20,(.bool ((A8M y3).Halted)),v21]) 0 C1m Y Y Y Y Y Y (AB a0 (AB a1 (AB Y (AB a2 (AB Y (AB a3 BR)))))) (by simp) Y ?_);refine Pe Y (Dh ([bx e [i,m,(iv ((A8M y3).Clock)),v20,(.bool ((A8M y3).Halted)),v21],ov [i,m,(iv ((A8M y3).Clock)),v20,(.bool ((A8M y3).Halted)),v21] (A8M y3:Engine)]) Y (Cq (Sr (P2 Y Y (Dx (AH [3,4,5,23] Y (CN Y (λa4=>?_) (λa4=>?_))))))))
  ·refine Sr (Pe Y (Ct (Xr (FV Y Y λw' hs=>⟨congrArg (λz=>Ending.returned (Value.bool z)) ?_,(b.trans hs.bel)⟩))))
   first|rfl|(exfalso;simp_all;done)|(simp only[hre,hall.2.2.2.2,hall.1];simp;done)|(simp_all;done)
  ·refine Sk (Cq (Sr (Pe Y (Cb (A8O (Cl (λm_ ac w'=>∃(k:Nat),(k<=y4.length)/\m_=y4.length-k/\Fits ac 81 [(3,v12),(4,x),(5,(pv e)),(7,(nv k))]/\St ay ([pb e (C1I y4 (A8M y3) k:Engine)]) w') ?_ ?_))))))
   ·refine A8b λb8=>?_
    refine Dp (λw' hs=>H5 (rO (k:=1) hs Y)) ?_;rintro⟨v29,v30,v31,v32,rfl,b9,ba,bb,bc⟩;refine A3 1 Y (show(A8M y3:Engine)=C1I y4 (A8M y3) 0 from by rfl) (A8O (λac w' hf hs=>⟨_,0,?_,Y,hf.wk Y,hs⟩))
    ·first|assumption|omega|simp
   ·rintro m_ ac w' ⟨k,hk,rfl,hf,hs⟩;refine D.use ?_ hf hs;clear hf hs ac w';refine A8b λbd=>?_
    refine Dp (λw' hs=>H5 (rO (k:=1) hs Y)) ?_;rintro⟨v38,v39,v40,v41,rfl,be,bf,bg,bh⟩;have hall:=C3c t.1 t.2.2 k;have hsz:=Nat.le_trans hall.2.1 (by decide:30000<=1048576);have hre:=hall.2.2.2.1;refine Cq (Sr (P2 Y Y (dl C1U Y (AE a) (Pe Y (Dh ([bx e [v38,v39,(iv ((C1I y4 (A8M y3) k).Clock)),v40,(.bool ((C1I y4 (A8M y3) k).Halted)),v41],ov [v38,v39,(iv ((C1I y4 (A8M y3) k).Clock)),v40,(.bool ((C1I y4 (A8M y3) k).Halted)),v41] (C1I y4 (A8M y3) k:Engine)]) Y (Cd Y (λa5=>?_) (λa5=>?_)))))))
    ·refine Sk (Cq (Cb (Sr (P2 Y Y ?_))));obtain⟨v0,c⟩:=sI y4 k;have a6:=b0 v0 (List.mem_of_getElem? c);obtain⟨bi,o,u⟩:=AC (n:=4) rfl a c;obtain⟨br,rfl,a7⟩:=D2 u;have bj:=rM a7;have v:=CC u;refine q1 Y (AJ (l:=y4) (j:=k) C1U Y Y Y (λw' hs=>(rA hs a)) Y (lS c)) (q1 Y (B2 C1y Y Y) (q1 Y (lr CJ Y Y o Y) (Dx (Cb (Sr (P2 Y Y (Dx (Ce Y (λa8=>?_) (λa8=>?_)))))))))
     ·refine vI ([ov [v38,v39,(iv ((C1I y4 (A8M y3) k).Clock)),v40,(.bool ((C1I y4 (A8M y3) k).Halted)),v41] (C1I y4 (A8M y3) k:Engine)]) mixed [6,7] (by kernel_rfl) (Tj 1 Y Y (λ_ hs=>hs.pk [1] Y Y) (rp Y) (Tj 2 Y Y (λ_ hs=>hs.pk [1] Y Y) (rp Y) (Tj 3 Y Y (λ_ hs=>hs.pk [1] Y Y) (AJ (l:=y4) (j:=k) C1U Y Y Y (λw' hs=>(rA hs a)) Y (lS c)) (Tj 4 Y Y (λ_ hs=>hs.pk [1] Y Y) (B2 C1S Y Y) (Tj 5 Y Y (λ_ hs=>hs.pk [1] Y Y) (EX B4Z Y Y (Q1 (f:=2) (n:=2) o Y)) (ty 0 Y Y (sv Y Y (C9 0 C1g Y Y Y) ?_)))))));refine tS (λ_ hs=>hs.pk [1] Y Y) (ty 6 Y Y (cr2 A6X Y Y Y Y (λw' hs=>(B1H (rO (k:=1) hs Y) (rA hs v) hsz (Nat.le_trans a6 (by decide)) (Tb.ext s (b.trans hs.bel)))) λbk a9=>?_));refine Dp (λw' hs=>H5 (rO (k:=0) hs Y)) ?_;rintro⟨v57,v58,v59,v60,rfl,aa,ab,ae,af⟩;refine Dp (λw' hs=>show a9=[(.bool (A8Z (C1I y4 (A8M y3) k) v0.Fact))] from rO (k:=1) hs Y) ?_;rintro rfl;refine MS 49 (v':=(.tuple #[(.agg #[v57,v58,(iv ((A8D (C1I y4 (A8M y3) k) v0.Fact).Clock)),v59,(.bool ((A8D (C1I y4 (A8M y3) k) v0.Fact).Halted)),v60]),(.bool (A8Z (C1I y4 (A8M y3) k) v0.Fact))])) Y Y Y (AG [0,2,3] Y (tZ Y (tW 7 Y Y Y (Tj 8 Y Y (λ_ hs=>hs.pk [2] Y Y) (rp Y) (Tj 9 Y Y (λ_ hs=>hs.pk [2] Y Y) (rp Y) (ty 10 Y Y (AZ (vs:=[v57,v58,(iv ((A8D (C1I y4 (A8M y3) k) v0.Fact).Clock)),v59,(.bool ((A8D (C1I y4 (A8M y3) k) v0.Fact).Halted)),v60]) (cs':=[v57,v58,(iv ((A8D (C1I y4 (A8M y3) k) v0.Fact).Clock)),v59,(.bool ((A8D (C1I y4 (A8M y3) k) v0.Fact).Halted)),v60]) 1 C1m Y Y Y Y Y Y (AB aa (AB ab (AB Y (AB ae (AB Y (AB af BR)))))) (by simp) Y ?_)))))));refine tS (λ_ hs=>hs.pk [2] Y Y) (tE (Xb (Xb (Xt (AH [3,4,5,7] Y (Dh ([ov [v57,v58,(iv ((A8D (C1I y4 (A8M y3) k) v0.Fact).Clock)),v59,(.bool ((A8D (C1I y4 (A8M y3) k) v0.Fact).Halted)),v60] (A8D (C1I y4 (A8M y3) k) v0.Fact:Engine),bx e [v57,v58,(iv ((A8D (C1I y4 (A8M y3) k) v0.Fact).Clock)),v59,(.bool ((A8D (C1I y4 (A8M y3) k) v0.Fact).Halted)),v60],_]) Y (Cr (p1 Y (ad (k+1) Y (Pe Y (A3 0 Y (show(A8D (C1I y4 (A8M y3) k) v0.Fact:Engine)=C1I y4 (A8M y3) (k+1) from by first|exact C3P c (by first|assumption|omega)|exact C3Q c (by first|assumption|omega)|exact C3R c (by first|assumption|omega) (by first|assumption|omega)) (AG [1,0,2] Y (A8O (λac w' hf hs=>⟨_,?_,k+1,?_,Y,hf.wk Y,hs.pk [0] Y Y⟩))))))))))))))
      ·omega
      ·first|assumption|omega|simp
     ·refine Sr (P2 Y Y (Dx (Ce Y (λag=>?_) (λag=>?_))))
      ·refine vI ([ov [v38,v39,(iv ((C1I y4 (A8M y3) k).Clock)),v40,(.bool ((C1I y4 (A8M y3) k).Halted)),v41] (C1I y4 (A8M y3) k:Engine)]) mixed [6,7] (by kernel_rfl) (Tj 1 Y Y (λ_ hs=>hs.pk [1] Y Y) (rp Y) (Tj 2 Y Y (λ_ hs=>hs.pk [1] Y Y) (rp Y) (Tj 3 Y Y (λ_ hs=>hs.pk [1] Y Y) (AJ (l:=y4) (j:=k) C1U Y Y Y (λw' hs=>(rA hs a)) Y (lS c)) (Tj 4 Y Y (λ_ hs=>hs.pk [1] Y Y) (B2 C1S Y Y) (Tj 5 Y Y (λ_ hs=>hs.pk [1] Y Y) (EX B4Z Y Y (Q1 (f:=2) (n:=2) o Y)) (ty 0 Y Y (sv Y Y (C9 0 C1g Y Y Y) ?_)))))));refine tS (λ_ hs=>hs.pk [1] Y Y) (ty 6 Y Y (cr2 A6a Y Y Y Y (λw' hs=>(B0o (rO (k:=1) hs Y) (rA hs v) hsz (Nat.le_trans a6 (by decide)) (Tb.ext s (b.trans hs.bel)))) λbl ah=>?_));refine Dp (λw' hs=>H5 (rO (k:=0) hs Y)) ?_;rintro⟨v68,v69,v70,v71,rfl,ai,aj,ak,al⟩;refine Dp (λw' hs=>show ah=[(.bool (A8g (C1I y4 (A8M y3) k) v0.Fact))] from rO (k:=1) hs Y) ?_;rintro rfl;refine MS 61 (v':=(.tuple #[(.agg #[v68,v69,(iv ((A8E (C1I y4 (A8M y3) k) v0.Fact).Clock)),v70,(.bool ((A8E (C1I y4 (A8M y3) k) v0.Fact).Halted)),v71]),(.bool (A8g (C1I y4 (A8M y3) k) v0.Fact))])) Y Y Y (AG [0,2,3] Y (tZ Y (tW 7 Y Y Y (Tj 8 Y Y (λ_ hs=>hs.pk [2] Y Y) (rp Y) (Tj 9 Y Y (λ_ hs=>hs.pk [2] Y Y) (rp Y) (ty 10 Y Y (AZ (vs:=[v68,v69,(iv ((A8E (C1I y4 (A8M y3) k) v0.Fact).Clock)),v70,(.bool ((A8E (C1I y4 (A8M y3) k) v0.Fact).Halted)),v71]) (cs':=[v68,v69,(iv ((A8E (C1I y4 (A8M y3) k) v0.Fact).Clock)),v70,(.bool ((A8E (C1I y4 (A8M y3) k) v0.Fact).Halted)),v71]) 1 C1m Y Y Y Y Y Y (AB ai (AB aj (AB Y (AB ak (AB Y (AB al BR)))))) (by simp) Y ?_)))))));refine tS (λ_ hs=>hs.pk [2] Y Y) (tE (Xb (Xb (Xt (AH [3,4,5,7] Y (Dh ([ov [v68,v69,(iv ((A8E (C1I y4 (A8M y3) k) v0.Fact).Clock)),v70,(.bool ((A8E (C1I y4 (A8M y3) k) v0.Fact).Halted)),v71] (A8E (C1I y4 (A8M y3) k) v0.Fact:Engine),bx e [v68,v69,(iv ((A8E (C1I y4 (A8M y3) k) v0.Fact).Clock)),v70,(.bool ((A8E (C1I y4 (A8M y3) k) v0.Fact).Halted)),v71],_]) Y (Cr (p1 Y (ad (k+1) Y (Pe Y (A3 0 Y (show(A8E (C1I y4 (A8M y3) k) v0.Fact:Engine)=C1I y4 (A8M y3) (k+1) from by first|exact C3P c (by first|assumption|omega)|exact C3Q c (by first|assumption|omega)|exact C3R c (by first|assumption|omega) (by first|assumption|omega)) (AG [1,0,2] Y (A8O (λac w' hf hs=>⟨_,?_,k+1,?_,Y,hf.wk Y,hs.pk [0] Y Y⟩))))))))))))))
       ·omega
       ·first|assumption|omega|simp
      ·refine Cr (q1 Y (C9 0 C1g Y Y Y) (qc2 B4E Y (λw' hs=>(B0S (rO (k:=1) hs Y) hsz (Tb.ext s (b.trans hs.bel)))) λbm am=>?_));refine Dp (λw' hs=>H5 (rO (k:=0) hs Y)) ?_;rintro⟨v78,v79,v80,p,rfl,an,ao,ap,aq⟩;refine Dp (λw' hs=>show am=[(.bool (stB (C1I y4 (A8M y3) k)))] from rO (k:=1) hs Y) ?_;rintro rfl;refine MS 37 (v':=(.tuple #[(.agg #[v78,v79,(iv ((stE (C1I y4 (A8M y3) k)).Clock)),v80,(.bool ((stE (C1I y4 (A8M y3) k)).Halted)),p]),(.bool (stB (C1I y4 (A8M y3) k)))])) Y Y Y (AG [0,2,3] Y (P3 Y Y Y (li Y (AZ (vs:=[v78,v79,(iv ((stE (C1I y4 (A8M y3) k)).Clock)),v80,(.bool ((stE (C1I y4 (A8M y3) k)).Halted)),p]) (cs':=[v78,v79,(iv ((stE (C1I y4 (A8M y3) k)).Clock)),v80,(.bool ((stE (C1I y4 (A8M y3) k)).Halted)),p]) 1 C1m Y Y Y Y Y Y (AB an (AB ao (AB Y (AB ap (AB Y (AB aq BR)))))) (by simp) Y ?_))));refine De (Xb (Xb (Xt (AH [3,4,5,7] Y (Dh ([ov [v78,v79,(iv ((stE (C1I y4 (A8M y3) k)).Clock)),v80,(.bool ((stE (C1I y4 (A8M y3) k)).Halted)),p] (stE (C1I y4 (A8M y3) k):Engine),bx e [v78,v79,(iv ((stE (C1I y4 (A8M y3) k)).Clock)),v80,(.bool ((stE (C1I y4 (A8M y3) k)).Halted)),p],_]) Y (Cr (p1 Y (ad (k+1) Y (Pe Y (A3 0 Y (show(stE (C1I y4 (A8M y3) k):Engine)=C1I y4 (A8M y3) (k+1) from by first|exact C3P c (by first|assumption|omega)|exact C3Q c (by first|assumption|omega)|exact C3R c (by first|assumption|omega) (by first|assumption|omega)) (AG [1,0,2] Y (A8O (λac w' hf hs=>⟨_,?_,k+1,?_,Y,hf.wk Y,hs.pk [0] Y Y⟩)))))))))))))
       ·omega
       ·first|assumption|omega|simp
    ·refine Cx (Xx (Xx (Xe (Xt (Sr (p1 Y (fl 0 C1j C2A Y (qc2 A6b Y (λw' hs=>(A9h (rA hs h) (by obtain⟨z0_,z1_,z3_,z5_,e_,hz0_,hz1_,hz3_,hz5_⟩:=C6 (rO (k:=1) hs rfl);cases e_;exact hz5_) (Nat.le_trans hrk.2 (by decide)) (by unfold DI at hsz;omega) (Tb.ext s (b.trans hs.bel)))) λbn ar=>?_))))))));refine Dp (λw' hs=>H5 (rO (k:=0) hs Y)) ?_;rintro⟨q,v89,r,v91,rfl,au,av,aw,ax⟩;refine Dp (λw' hs=>show ar=[(.bool (A8e y3 ((C1I y4 (A8M y3) k).Log)))] from rO (k:=1) hs Y) ?_;rintro rfl;refine MS 68 (v':=(.tuple #[(.agg #[q,v89,(iv ((A8N y3 ((C1I y4 (A8M y3) k).Log)).Clock)),r,(.bool ((A8N y3 ((C1I y4 (A8M y3) k).Log)).Halted)),v91]),(.bool (A8e y3 ((C1I y4 (A8M y3) k).Log)))])) Y Y Y (AG [0,2,3] Y (P3 Y Y Y (aL C2I Y λb1=>?_)));refine li Y (AZ (vs:=[q,v89,(iv ((A8N y3 ((C1I y4 (A8M y3) k).Log)).Clock)),r,(.bool ((A8N y3 ((C1I y4 (A8M y3) k).Log)).Halted)),v91]) (cs':=[q,v89,(iv ((A8N y3 ((C1I y4 (A8M y3) k).Log)).Clock)),r,(.bool ((A8N y3 ((C1I y4 (A8M y3) k).Log)).Halted)),v91]) 0 C1m Y Y Y Y Y Y (AB au (AB av (AB Y (AB aw (AB Y (AB ax BR)))))) (by simp) Y ?_);refine Pe Y (Dh ([bx b1 [q,v89,(iv ((A8N y3 ((C1I y4 (A8M y3) k).Log)).Clock)),r,(.bool ((A8N y3 ((C1I y4 (A8M y3) k).Log)).Halted)),v91],ov [q,v89,(iv ((A8N y3 ((C1I y4 (A8M y3) k).Log)).Clock)),r,(.bool ((A8N y3 ((C1I y4 (A8M y3) k).Log)).Halted)),v91] (A8N y3 ((C1I y4 (A8M y3) k).Log):Engine),_,_]) Y (Sr (P2 Y Y (gs 72 Y Y (λb2=>?_) (λb2=>?_)))))
     ·refine q1 Y (C9 0 C1g Y Y Y) (qv A6h Y (λw' hs=>(WM (rO (k:=1) hs Y) (by rw[hre];exact hsz) (by rw[hre];exact hall.2.2.1))) (P2 Y Y (gs 76 Y Y (λb3=>?_) (λb3=>?_))))
      ·refine q1 Y (C9 0 C1g Y Y Y) (q1 Y (C9 2 C1g Y Y Y) (qv B3g Y (λw' hs=>(C2M (rO (k:=1) hs Y) (rO (k:=3) hs Y))) (P2 Y Y (Dx (Ct (FV Y Y λw' hs=>⟨congrArg (λz=>Ending.returned (Value.bool z)) ?_,(b.trans hs.bel)⟩))))));show((decide ((A8N y3 ((C1I y4 (A8M y3) k).Log))=(C1I y4 (A8M y3) k))):Bool)=_
       first|rfl|(exfalso;simp_all;done)|(simp only[hre,hall.2.2.2.2,hall.1];simp;done)|(simp_all;done)
      ·refine n1 Y (n1 Y (n1 Y (P2 Y Y (Dx (Ct (FV Y Y λw' hs=>⟨congrArg (λz=>Ending.returned (Value.bool z)) ?_,(b.trans hs.bel)⟩))))))
       first|rfl|(exfalso;simp_all;done)|(simp only[hre,hall.2.2.2.2,hall.1];simp;done)|(simp_all;done)
     ·refine n1 Y (n1 Y (P2 Y Y (n1 Y (n1 Y (n1 Y (P2 Y Y (Dx (Ct (FV Y Y λw' hs=>⟨congrArg (λz=>Ending.returned (Value.bool z)) ?_,(b.trans hs.bel)⟩)))))))))
      first|rfl|(exfalso;simp_all;done)|(simp only[hre,hall.2.2.2.2,hall.1];simp;done)|(simp_all;done)
end Go.Sy.Lawf
end
