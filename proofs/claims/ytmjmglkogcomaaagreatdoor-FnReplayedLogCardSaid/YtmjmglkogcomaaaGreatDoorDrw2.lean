/-
  What is drawn: rules.
  Conditions: those that each theorem states.
-/
import Derived.Test.YtmjmglkogcomaaaGreatDoorDrw1
section
namespace Go.Sy
open Go
def smR(r:C1M):Prop:=r.y.size<=16/\(-1<=r.p3/\r.p3<=10)/\(∀x∈r.q,BW x<=100/\okI x.s)/\r.q.length<=6/\(∀a∈r.q0,CV a<=100/\okI a.s)/\r.q0.length<=4
theorem B6m{r:C1M}(h:smR r):H9 r/\BG r<=1100:=by
 obtain⟨h1,e,b,f,d,g⟩:=h;have i:=A9m (c:=BW) (λx a=>(b x a).1);have j:=A9m (c:=CV) (λx a=>(d x a).1);refine⟨⟨B5a (by omega),by unfold okI;omega,λx a=>B8x (b x a).2 (by have:=(b x a).1;omega),λx a=>B8y (d x a).2 (by have:=(d x a).1;omega)⟩,?_⟩;unfold BG;omega
section
variable {r:C1M}
theorem B9N{k:Int}{p:C1H}(h:smR r)(hl:r.q0.length<=2)(hk:okI k)(hp:E8 p<=20):smR ⟨r.y,r.p3,r.q,r.q0++ [⟨k,p⟩]⟩:=
 ⟨h.1,h.2.1,h.2.2.1,h.2.2.2.1,B6E h.2.2.2.2.1 ⟨by show E8 p<=100;omega,hk⟩,by rw[List.length_append,List.length_singleton];omega⟩
theorem B9O{p k:Int}{cs:List C1L}{q:ByteArray}{b:List ByteArray}(hp:0<=p/\p<=4)(d:∀x∈cs,BW x<=100/\okI x.s)(hl:cs.length<=6)(hk:okI k)(h:q.size<=8)(f:∀x∈b,x.size<=8)(g:b.length<=8):smR ⟨⟨#[114]⟩,p,cs,[]++ [⟨k,⟨q,b⟩⟩]⟩:=by
 refine⟨by show 1<=16;decide,by show-1<=p/\p<=10;omega,d,hl,λa e=>?_,by show 1<=4;decide⟩;simp only[List.nil_append,List.mem_singleton] at e;subst e;refine⟨?_,hk⟩;have:=A9m (c:=λx:ByteArray=>x.size) f;show q.size+M9 b<=100;unfold DD AI at this;unfold M9;omega
theorem B9n{p k:Int}{cs:List C1L}{q:ByteArray}{a:List ByteArray}(hp:0<=p/\p<=4)(b:∀x∈cs,BW x<=100/\okI x.s)(hl:cs.length<=6)(hk:okI k)(d:q.size<=8)(e:∀x∈a,x.size<=8)(c:a.length<=8):H9 ⟨⟨#[114]⟩,p,cs,[]++ [⟨k,⟨q,a⟩⟩]⟩/\BG ⟨⟨#[114]⟩,p,cs,[]++ [⟨k,⟨q,a⟩⟩]⟩<=1048576:=
 have h:=B6m (B9O hp b hl hk d e c)
 ⟨h.1,Nat.le_trans h.2 (by decide)⟩
theorem B9o{p k:Int}{cs:List C1L}{q:ByteArray}{a:List ByteArray}(hp:0<=p/\p<=4)(b:∀x∈cs,BW x<=100/\okI x.s)(hl:cs.length<=6)(hk:okI k)(d:q.size<=8)(e:∀x∈a,x.size<=8)(c:a.length<=8):H9 ⟨⟨#[114]⟩,p,cs,[]++ [⟨k,⟨q,a⟩⟩]++ [⟨3,⟨⟨#[]⟩,[]⟩⟩]⟩/\BG ⟨⟨#[114]⟩,p,cs,[]++ [⟨k,⟨q,a⟩⟩]++ [⟨3,⟨⟨#[]⟩,[]⟩⟩]⟩<=1048576:=
 have h:=B6m (B9N (r:=⟨⟨#[114]⟩,p,cs,[]++ [⟨k,⟨q,a⟩⟩]⟩) (k:=3) (p:=⟨⟨#[]⟩,[]⟩) (B9O hp b hl hk d e c) (by show 1<=2;decide) ⟨by decide,by decide⟩ (by decide))
 ⟨h.1,Nat.le_trans h.2 (by decide)⟩
theorem B9P{p:C1H}(h:E8 p<=8):∀x∈ [(⟨1,p,⟨#[]⟩,⟨#[]⟩⟩:C1L)],BW x<=100/\okI x.s:=λx a=>by
 simp only[List.mem_singleton] at a;subst a;exact⟨by rw[B5k];omega,(⟨by decide,by decide⟩:okI 1)⟩
end
theorem B9p{x:C1L}(h:BD x=true):okI x.s:=by
 unfold BD at h
 split at h
 ·unfold okI;omega
 ·split at h
  ·unfold okI;omega
  ·cases h
theorem C0X{a:Action}(h:D3 a=true):okI a.s:=by
 unfold D3 at h
 split at h
 ·unfold okI;omega
 ·split at h
  ·unfold okI;omega
  ·cases h
theorem B6L{r:C1M}(h:CR r=true):smR r/\(1<=r.q.length/\r.q.length<=4)/\1<=r.q0.length/\r.q0.length<=2:=by
 unfold CR GO at h;simp only[Bool.and_eq_true,decide_eq_true_eq,List.all_eq_true,List.mem_range] at h;have h1:=A9x h.1;refine⟨⟨by omega,by omega,λx d=>?_,by omega,λa c=>?_,by omega⟩,by omega,by omega,by omega⟩
 ·obtain⟨k,b⟩:=List.getElem?_of_mem d;have:=h.2.2.2.2.1 k (lS b);unfold GP at this;rw[b] at this;simp only[Bool.and_eq_true] at this;exact⟨by have:=B1Z this.1;omega,B9p this.1⟩
 ·have:=h.2.2.2.2.2.1 a c;unfold IG at this;simp only[Bool.and_eq_true] at this;exact⟨by have:=B1v this.1;omega,C0X this.1⟩
theorem C3Y{r:C1M}{n:ByteArray}(h:CR r=true)(a:FK n=true):CR ⟨n,r.p3,r.q,r.q0⟩=true:=by
 unfold CR at h⊢;rw[Bool.and_eq_true] at h;rw[Bool.and_eq_true];exact⟨a,h.2⟩
def rNm(n:Int):ByteArray:=⟨#[114]⟩++ES n
theorem C2m:([1,2,3,4]:List Int).all (λm=>FK (rNm m)&&([1,2,3,4]:List Int).all (λn=>decide (m=n)|| !decide (rNm m=rNm n)))=true:=by kernel_rfl
theorem C2W{n:Int}(h:1<=n/\n<=4):n∈([1,2,3,4]:List Int):=by
 simp only[List.mem_cons,List.not_mem_nil,or_false];omega
theorem C3F{n:Int}(h:1<=n/\n<=4):FK (rNm n)=true:=by
 have:=List.all_eq_true.1 C2m n (C2W h);rw[Bool.and_eq_true] at this;exact this.1
theorem C3Z{m n:Int}(a:1<=m/\m<=4)(b:1<=n/\n<=4)(h:rNm m=rNm n):m=n:=by
 have:=List.all_eq_true.1 C2m m (C2W a);rw[Bool.and_eq_true] at this;have:=List.all_eq_true.1 this.2 n (C2W b);rw[Bool.or_eq_true] at this
 rcases this with h1|h1
 ·exact odT h1
 ·rw[decide_eq_true h] at h1;cases h1
def C3G(l:List C1M)(n:Int):Prop:=∀(i:Nat) (r:C1M),l[i]?=some r->CR r=true/\r.y=rNm (n-i)
theorem C3H(n:Int):C3G [] n:=λi r h=>by cases h
theorem C2q{l:List C1M}{n m:Int}{r:C1M}(h:C3G l n)(hl:(l.length:Int)+m=n)(d:1<=m/\m<=4)(e:CR r=true):C3G (l++ [⟨⟨#[114]⟩++ES m,r.p3,r.q,r.q0⟩]) n:=λi q a=>by
 by_cases hi:i<l.length
 ·rw[List.getElem?_append_left hi] at a;exact h i q a
 ·have b:i=l.length:=by
   have:=lS a;rw[List.length_append,List.length_singleton] at this;omega
  subst b;rw[List.getElem?_append_right (Nat.le_refl _),Nat.sub_self] at a;obtain rfl:(⟨⟨#[114]⟩++ES m,r.p3,r.q,r.q0⟩:C1M)=q:=Option.some.inj a;have c:=C3F d;refine⟨C3Y e c,?_⟩;rw[show n-(l.length:Int)=m by omega];rfl
theorem C3I{l:List C1M}{n:Int}(h:C3G l n)(hl:(l.length:Int)<=n)(f:n<=4):AR l=true:=by
 unfold AR;simp only[Bool.and_eq_true,decide_eq_true_eq,List.all_eq_true,List.mem_range];refine⟨by omega,λi d=>?_⟩;obtain⟨r,a⟩:=sL d;have h1:=h i r a;refine jM a h1.1 (qZ a rfl (λj g q c e=>?_)).symm;have b:=h j q c;have:=C3Z (m:=n-j) (n:=n-i) ⟨by omega,by omega⟩ ⟨by omega,by omega⟩ (by rw[<-b.2,<-h1.2,e]);omega
theorem C2n{l:List C1M}(h:AR l=true):LR H9 l/\DD BG l<=6606:=by
 have f:=YA h;have d:∀r∈l,CR r=true:=λr a=>by
  obtain⟨k,e⟩:=List.getElem?_of_mem a;exact(X9 h e).1
 have b:∀r∈l,H9 r/\BG r<=1100:=λr a=>B6m (B6L (d r a)).1
 refine⟨λr a=>(b r a).1,?_⟩;have:=A9m (c:=BG) (λr a=>(b r a).2);omega
end Go.Sy
end
/-
  Contracts of functions of the program, walked (printed by a program of ours).
  Conditions: those that each theorem states.
-/
section
set_option linter.unusedVariables false
set_option maxRecDepth 20000
namespace Go.Sy.Drw2
open Go Go.RowKit Go.Proofs Go.Sy
open Go.Sy.Bel1 Go.Sy.Ev1 Go.Sy.Fmt1 Go.Sy.Eng1 Go.Sy.Eng2 Go.Sy.Eng3 Go.Sy.Num1 Go.Sy.Num2 Go.Sy.Par1 Go.Sy.Drw1
theorem B5q(w0:World)(n:List Chunk)(w:World)(b:Nat)(c:Value)(code:List UInt8)(d:Int)(o:Gd.rd w0 [c] code)(hm:0<d)(r:St w0 (cu b c code.length::n) w):Cy 177 [(pv b),(iv d)] w (λe w'=>∃(y:C1M) (cs:List Value),(CR y=true)/\e= .returned (Gd.vl (C1M) cs)/\St w0 (ov cs y::cu b c code.length::n) w'):=by
 have a0:=rM o;refine CX 23 Tryz.func177 Y Y Y r<|Sr (aL C5q Y λg2=>?_);refine Dx<|Dh (bx g2 [eS,iv 0,nS,nS]::cu b c code.length::n) Y<|Sr<|li Y (oO (α:=ByteArray) (xs:=known.map λs=> .const (.string s)) (ys:=known) HJ QZ Y Y Y Y (by decide) (by decide) Y Y λv3=>?_);refine Pe Y<|Dh (ov [v3] (known:(List ByteArray))::_::_::n) Y<|Sr<|P3 Y Y Y<|p1 Y<|q1 Y (B7 0 HJ Y Y Y) ?_;have a2:known.length=13:=rfl;refine q1 Y (C0u Y Y Y)<|BZ [2] 0 Y<|li Y (ccI B4D Y Y Y Y (λw' f=>C8v _ _ w' b c code (min d ((known.length:Nat):Int)) o f) λz p=>?_);have v:=p.1;have x:=p.2;obtain⟨a,g⟩:=sI known (z.toNat);refine q1 Y (AJ (l:=known) (j:=z.toNat) HJ Y Y Y (λw' f=>rO (k:=1) f Y) (Int.toNat_of_nonneg (by omega)).symm (lS g))<|q1 Y (lo (α:=ByteArray) 1 BK Y Y Y g) (qc2 A0O Y (λw' f=>B6i<|B9L<|List.mem_of_getElem? g) λa1 t=>?_);refine Dp (λw' f=>TN<|rO (k:=0) f Y) ?_;rintro⟨h,i,rfl,q,m⟩;refine Dp (λw' f=>show t=[(.bool (B5K a))] from rO (k:=1) f Y) ?_;rintro rfl;refine MS 19 (v':=(.tuple #[(.agg #[.string ((B4o a).y),iv ((B4o a).p3),h,i]),.bool<|B5K a])) Y Y Y<|BZ [4,4,4,3,4] 1 Y<|P3 Y Y Y (aL C5q Y λu=>?_);refine li Y<|AZ (vs:=[.string ((B4o a).y),iv ((B4o a).p3),h,i]) (cs':=[.string ((B4o a).y),iv ((B4o a).p3),h,i]) 0 A6M Y Y Y Y Y Y (AB Y<|AB Y<|AB q<|AB m BR) (by simp) Y ?_;refine Pe Y<|AH [4,6] Y<|Dh (bx u [.string ((B4o a).y),iv ((B4o a).p3),h,i]::ov [.string ((B4o a).y),iv ((B4o a).p3),h,i] (B4o a:C1M)::_::_::_::n) Y<|Sr<|q1 Y (C9 0 C5D Y Y Y)<|li Y<|AZ (vs:=[.string ((B4o a).y),iv ((B4o a).p3),h,i]) (cs':=[.string ((B4o a).y),iv ((B4o a).p3),h,i]) 4 A6M Y Y Y Y Y Y (AB Y<|AB Y<|AB q<|AB m BR) (by simp) Y ?_;refine Dx<|Ct (eW (cs:=[.string ((B4o a).y),iv ((B4o a).p3),h,i]) 4 C5D Y Y Y λw' f=>⟨B4o a,[.string ((B4o a).y),iv ((B4o a).p3),h,i],?_,Y,f.fd [2,2,4,4,4] 3 Y⟩);exact(B8q (List.mem_of_getElem? g)).2
set_option maxHeartbeats 4000000 in
theorem B6s(w0:World)(Hs:List Chunk)(w:World)(f:Nat)(g:Value)(code:List UInt8)(n:Gd.rd w0 [g] code)(ba:St w0 (cu f g code.length::Hs) w):Cy 176 [(pv f)] w (λe w'=>∃(y:C1M) (cs:List Value),(CR y=true)/\e= .returned (Gd.vl (C1M) cs)/\St w0 (ov cs y::cu f g code.length::Hs) w'):=by
 have bu:=rM n;refine CX 88 Tryz.func176 Y Y Y ba<|Sr (aL C5q Y λg2=>?_);refine Dx<|Dh (bx g2 [eS,iv 0,nS,nS]::cu f g code.length::Hs) Y<|Sr<|p1 Y<|BZ [1] 0 Y<|li Y (ccI B4D Y Y Y Y (λw' b=>C8v _ _ w' f g code 4 n b) λc aq=>?_);have bm:=aq.1;have bn:=aq.2;refine p1 Y<|li Y (ccR (α:=C1H) A3g Y Y Y Y (λw' b=>B5J _ _ w' f g code n b) λy4 bv bb=>?_);refine Dp (λw' b=>OO<|rO (k:=0) b Y) ?_;rintro⟨v6,rfl,bw⟩;refine MS 11 (v':=(.agg #[.string y4.p5,v6])) Y Y Y<|q1 Y (FJ (vs:=[(0,iv 1),(1,(.agg #[.string y4.p5,v6]))]) (xs:=[(0,[iv 1]),(1,[.string y4.p5,v6])]) (cs:=[iv 1,.string y4.p5,v6,eS,eS]) C6s Y ⟨Y,Y,⟨Y,Y,trivial⟩⟩ Y Y)<|BB (α:=ByteArray) (β:=List ByteArray) (c1:=[.string y4.p5]) (c2:=[v6]) (x:=y4.p5) (y:=y4.a) Y Y<|BZ [] 1 Y<|iA (r:=(⟨1,y4,⟨#[]⟩,⟨#[]⟩⟩:C1L))<|li Y (zF (α:=C1L) C5F C5Q Y (by decide) (by decide) Y Y Y Y Y Y λv9=>?_);refine Dp (λw' b=>CZ (k:=0) b Y) ?_;intro al;refine q1 Y (FJ (vs:=[(0,.string ⟨#[114]⟩),(1,iv c),(2,v9)]) (xs:=[(0,[.string ⟨#[114]⟩]),(1,[iv c]),(2,[v9])]) (cs:=[.string ⟨#[114]⟩,iv c,v9,nS]) C7f Y ⟨Y,Y,⟨Y,Y,⟨Y,AO al,trivial⟩⟩⟩ Y Y) (aL C5q Y λa2=>?_);refine li Y<|AZ (vs:=[.string ⟨#[114]⟩,iv c,v9,nS]) (cs':=[.string ⟨#[114]⟩,iv c,v9,nS]) 0 A6M Y Y Y Y Y Y (AB Y<|AB Y<|AB al<|AB Y BR) (by simp) Y ?_;refine Dx<|Dh (bx a2 [.string ⟨#[114]⟩,iv c,v9,nS]::ov [v9] ([(⟨1,y4,⟨#[]⟩,⟨#[]⟩⟩:C1L)]:(List C1L))::_::_::Hs) Y<|Cq<|Sr<|p1 Y<|BZ [2] 0 Y<|li Y (ccI B4D Y Y Y Y (λw' b=>C8v _ _ w' f g code 3 n b) λbc am=>?_);have bd:=am.1;have be:=am.2;refine Pe Y<|Dh (_::_::_::_::Hs) Y<|Cb<|Cl (λm_ ac w'=>∃(nn:Int),∃(cs:List C1L),∃(v:Value),(0<=nn)/\((cs.length:Int)+nn<=3)/\(∀x∈cs,BW x<=100/\okI x.s)/\m_=nn.toNat/\Fits ac 88 [(0,pv f),(2,pv g2),(3,pv a2),(4,iv nn)]/\St w0 (cu f g code.length::bx a2 [.string ⟨#[114]⟩,iv c,v,nS]::ov [v] (cs:(List C1L))::bx g2 [eS,iv 0,nS,nS]::Hs) w') ?_ ?_
 ·refine A3 2 Y (show([(⟨1,y4,⟨#[]⟩,⟨#[]⟩⟩:C1L)]:(List C1L))=([(⟨1,y4,⟨#[]⟩,⟨#[]⟩⟩:C1L)]) from by rfl) λac w' hf b=>⟨_,bc,[(⟨1,y4,⟨#[]⟩,⟨#[]⟩⟩:C1L)],v9,?_,?_,?_,Y,hf.wk Y,b⟩
  ·assumption
  ·simp;omega
  ·exact B9P bb
 ·rintro m_ ac w' ⟨nn,cs,v,bz,hl,a7,rfl,hf,b⟩;refine D.use ?_ hf b;clear hf b ac w';refine Cq<|Sr<|PE 2 Y<|Dh (_::_::_::_::Hs) Y<|Cd Y (λar=>?_) λar=>?_
  ·refine Sk<|Cq<|Cb<|A0 mixed [5,6,7] (by kernel_rfl)<|Tk 0 Y Y (Db C4x Y Y (q:=2) Y)<|Tk 1 Y Y (lb 1 C5a Y Y Y Y)<|tR 2 Y Y<|ty 3 Y Y (ccR (α:=C1L) A4s Y Y Y Y (λw' b=>B6W _ _ w' f g code n b) λa1 bo a5=>?_);have bf:=a5.1;have bg:=a5.2;refine Dp (λw' b=>TM<|rO (k:=0) b Y) ?_;rintro⟨bh,rfl,bp⟩;refine MS 24 (v':=(.agg #[iv a1.s,.string a1.p2.p5,bh,.string a1.t,.string a1.p6])) Y Y Y<|tS (λ_ b=>b.fd [] 1 Y)<|ty 4 Y Y (FF C5F C5Q Y (by decide) (by decide) Y Y Y Y Y Y λg18=>?_);refine tS (λ_ b=>b.fd [] 2 Y)<|BZ [0,1,4] 0 Y<|ty 5 Y Y (GZ C5F C5Q Y (by decide) Y Y Y Y Y Y (by omega) (by omega) λa8=>?_);refine tZ Y<|ty 6 Y Y<|sv Y Y (Db C4x Y Y (q:=2) Y) ?_;refine tZ Y<|Dp (λw' b=>CZ (k:=0) b Y) ?_;intro an;refine ty 7 Y Y<|AZ (vs:=[a8]) (cs':=[.string ⟨#[114]⟩,iv c,a8,nS]) 2 C8I Y Y Y Y Y (AO an) (AB an BR) (by simp) Y ?_;refine tZ Y<|tE<|Xb<|Xt<|Dh (ov [a8] (cs++ [a1]:(List C1L))::_::bx a2 [.string ⟨#[114]⟩,iv c,a8,nS]::_::Hs) Y<|Cr<|p1 Y<|q1 Y (B3 Y Y Y Y (by omega))<|Pe Y<|A3 0 Y (show(cs++ [a1]:(List C1L))=(cs++ [a1]) from by rfl) λac w' hf b=>⟨_,?_,(nn-1),cs++ [a1],a8,?_,?_,?_,Y,hf.wk Y,b.fd [3,1,3,3] 0 Y⟩
   ·omega
   ·omega
   ·simp;omega
   ·exact B6E a7 ⟨by have:=a5.1;omega,a5.2⟩
  ·refine Cx<|Xx<|Xx<|Xe<|Xt<|Cq ?_;have au:smR ⟨⟨#[114]⟩,c,cs,[]⟩:=⟨by show 1<=16;decide,by show-1<=c/\c<=10;omega,a7,by show cs.length<=6;omega,(λa ha=>by cases ha),by show 0<=4;decide⟩;refine Cr<|q1 Y (C9 1 C5D Y Y Y)<|fl 1 C4x C5a Y<|q1 Y (B7 2 C5F Y Y Y)<|CG (α:=Action)<|BZ [0,3] 0 Y<|iB (r:=(⟨⟨#[114]⟩,c,cs,[]⟩:C1M)) (ql LP Y (λw' b=>(KC (rO (k:=0) b Y) (Nat.le_trans (B6m au).2 (by decide)) (B6m au).1)) λv21=>?_);refine Pe Y<|Dh (ov [v21] (AD (DR (⟨⟨#[114]⟩,c,cs,[]⟩:C1M) ((cs.length:Nat):Int)):(List ByteArray))::ov [.string ⟨#[114]⟩,iv c,v,nS] ((⟨⟨#[114]⟩,c,cs,[]⟩:C1M):C1M)::_::_::_::Hs) Y<|Sr<|p1 Y<|BZ [2] 0 Y<|li Y (ccR (α:=C1H) A3g Y Y Y Y (λw' b=>B5J _ _ w' f g code n b) λd bq av=>?_);refine Dp (λw' b=>OO<|rO (k:=0) b Y) ?_;rintro⟨a4,rfl,aw⟩;refine MS 34 (v':=(.agg #[.string d.p5,a4])) Y Y Y (aL B6O Y λap=>?_);refine li Y<|AZ (vs:=[.string d.p5,a4]) (cs':=[.string d.p5,a4]) 0 C0I Y Y Y Y Y Y (AB Y<|AB aw BR) (by simp) Y ?_;refine Dx<|Dh (bx ap [.string d.p5,a4]::ov [.string d.p5,a4] (d:C1H)::_::_::_::_::_::Hs) Y<|Cq<|Sr<|Pe Y<|Cb<|BZ [1] 0 Y<|BB (α:=ByteArray) (β:=List ByteArray) (c1:=[.string d.p5]) (c2:=[a4]) (x:=d.p5) (y:=d.a) Y Y<|BZ [] 1 Y ?_;have c0:d.p5.size+M9 d.a<=8:=av;have c3:d.a.length<=M9 d.a:=Nat.le_add_right _ _;refine Cl (λm_ ac w'=>∃(i:Nat),∃(m:List ByteArray),∃(v2:Value),(i<=m.length)/\(m.length<=8)/\(∀x∈m,x.size<=8)/\m_=m.length-i/\Fits ac 88 [(0,pv f),(2,pv g2),(3,pv a2),(5,v21),(6,pv ap),(7,nv i)]/\St w0 (ov [v2] (m:(List ByteArray))::bx ap [.string d.p5,v2]::cu f g code.length::ov [v21] (AD (DR (⟨⟨#[114]⟩,c,cs,[]⟩:C1M) ((cs.length:Nat):Int)):(List ByteArray))::ov [.string ⟨#[114]⟩,iv c,v,nS] ((⟨⟨#[114]⟩,c,cs,[]⟩:C1M):C1M)::bx a2 [.string ⟨#[114]⟩,iv c,v,nS]::bx g2 [eS,iv 0,nS,nS]::Hs) w') ?_ ?_
   ·refine λac w' hf b=>⟨_,0,d.a,a4,?_,?_,?_,Y,hf.wk Y,b⟩
    ·omega
    ·omega
    ·exact λx hx=>by have:=B7d hx;omega
   ·rintro m_ ac w' ⟨i,m,v2,hi,ak,a6,rfl,hf,b⟩;refine D.use ?_ hf b;clear hf b ac w';refine Cq<|Sr<|p1 Y<|fl 1 B6C VN Y<|q1 Y (B7 0 HJ Y Y Y)<|Pe Y<|Dh (_::_::_::_::_::_::_::Hs) Y<|Cd Y (λax=>?_) λax=>?_
    ·refine Sk<|Cq<|Cb<|Sr<|fl 1 B6C VN Y<|p1 Y ?_;obtain⟨x0,a3⟩:=sI m i;refine q1 Y (AJ (l:=m) (j:=i) HJ Y Y Y (λw' b=>rO (k:=0) b Y) Y<|lS a3)<|q1 Y (lo (α:=ByteArray) 0 BK Y Y Y a3)<|qv pP Y (λw' b=>GQ (by have:=a6 _ (List.mem_of_getElem? a3);omega))<|p1 Y<|gs 48 Y Y (λbi=>?_) λbi=>?_
     ·refine p1 Y<|fl 1 B6C VN Y<|p1 Y<|q1 Y (AJ (l:=m) (j:=i) HJ Y Y Y (λw' b=>rO (k:=0) b Y) Y<|lS a3)<|q1 Y (lo (α:=ByteArray) 0 BK Y Y Y a3)<|qv zL Y (λw' b=>GW<|rO (k:=3) b Y)<|PE 2 Y<|AH [0,2,3,5,6,7,57] Y<|CN Y (λay=>?_) λay=>?_
      ·refine A0 mixed [6] (by kernel_rfl)<|Tk 0 Y Y (Db B6C Y Y (q:=1) Y)<|Tk 1 Y Y (lb 1 VN Y Y Y Y)<|tK 3 [2,3] Y<|BZ [2] 0 Y<|ty 4 Y Y (ccS A4w Y Y Y Y (λw' b=>B5y _ _ w' f g code n b) λa9 br=>?_);refine tS (λ_ b=>b.fd [6,6,6,6,4,6,6] 0 Y)<|Tj 5 Y Y (λ_ b=>b.fd [6,6,6,6,4,6,6] 0 Y) (AJ (l:=m) (j:=i) HJ Y Y Y (λw' b=>rO (k:=0) b Y) Y<|lS a3)<|ty 6 Y Y<|so (α:=ByteArray) (z:=a9) 1 VI Y Y Y Y Y (lS a3) ?_;refine tZ Y<|tE<|Xb<|Xt<|Dh (_::ov [v2] (m.set i a9:(List ByteArray))::_::_::_::_::_::Hs) Y<|Cr<|p1 Y<|ad (i+1) Y<|Pe Y<|A3 1 Y (show(m.set i a9:(List ByteArray))=(m.set i a9) from by rfl) λac w' hf b=>⟨_,?_,i+1,m.set i a9,v2,?_,?_,?_,Y,hf.wk Y,b.fd [6,6,6,6,4,6,6] 0 Y⟩
       ·simp;omega
       ·simp;omega
       ·simp;omega
       ·exact λx hx=>(List.mem_or_eq_of_mem_set hx).elim (a6 x) (λe=>by rw[e];omega)
      ·refine Ck<|Xb<|Xt<|Cr<|p1 Y<|ad (i+1) Y<|Pe Y λac w' hf b=>⟨_,?_,i+1,m,v2,?_,?_,?_,Y,hf.wk Y,b⟩
       ·omega
       ·omega
       ·assumption
       ·assumption
     ·refine PE 9 Y<|AH [0,2,3,5,6,7,57] Y<|G7 Y<|Ck<|Xb<|Xt<|Cr<|p1 Y<|ad (i+1) Y<|Pe Y λac w' hf b=>⟨_,?_,i+1,m,v2,?_,?_,?_,Y,hf.wk Y,b⟩
      ·omega
      ·omega
      ·assumption
      ·assumption
    ·refine Cx<|Xx<|Xx<|Xe<|Xt<|Cq<|A0 mixed [8,9,10] (by kernel_rfl)<|Tk 0 Y Y (Db C5B Y Y (q:=3) Y)<|Tk 1 Y Y (lb 5 C5s Y Y Y Y)<|tR 2 Y Y<|Tk 5 Y Y (C9 1 B8m Y Y Y)<|ty 3 Y Y (oO (α:=Int) (xs:=[.const<|iv 1, .const<|iv 1, .const<|iv 2]) (ys:=[1,1,2]) C1s vH Y Y Y Y (by decide) (by decide) Y Y λv31=>?_);refine tS (λ_ b=>b.fd [] 1 Y)<|BZ [3] 0 Y<|ty 4 Y Y (ccI B3u Y Y Y Y (λw' b=>B5F _ _ w' f g code v31 [1,1,2] n (λw' b=>rO (k:=1) b Y) (by decide) b) λh ao=>?_);refine tS (λ_ b=>b.fd [7,7,7,7,4,7,7,7] 1 Y)<|Tj 6 Y Y (λ_ b=>b.fd [7,7,7,7,4,7,7,7] 1 Y) (FJ (vs:=[(0,iv h),(1,(.agg #[.string d.p5,v2]))]) (xs:=[(0,[iv h]),(1,[.string d.p5,v2])]) (cs:=[iv h,.string d.p5,v2]) C6i Y ⟨Y,Y,⟨Y,Y,trivial⟩⟩ Y Y)<|ty 7 Y Y (FF C5g C6I Y (by decide) (by decide) Y Y Y Y Y Y λc4=>?_);refine tS (λ_ b=>b.fd [8,8,8,8,5,8,8,8,8] 2 Y)<|CG (α:=Action)<|BZ [4] 0 Y<|WY (r:=(⟨h,⟨d.p5,m⟩⟩:Action))<|BZ [2,1,2] 0 Y<|ty 8 Y Y (GZ C5g C6I Y (by decide) Y Y Y Y Y Y (by simp) (by simp) λu=>?_);refine tZ Y<|ty 9 Y Y<|sv Y Y (Db C5B Y Y (q:=3) Y) ?_;refine tZ Y<|Dp (λw' b=>CZ (k:=0) b Y) ?_;intro ab;refine ty 10 Y Y<|AZ (vs:=[u]) (cs':=[.string ⟨#[114]⟩,iv c,v,u]) 6 A1Q Y Y Y Y Y (AO ab) (AB ab BR) (by simp) Y ?_;refine tZ Y<|tE<|Xt<|AH [0,2,3] Y<|Dh (ov [u] ([]++ [(⟨h,⟨d.p5,m⟩⟩:Action)]:(List Action))::_::ov [v31] ([1,1,2]:(List Int))::_::_::_::bx a2 [.string ⟨#[114]⟩,iv c,v,u]::_::Hs) Y<|Cq<|Sr<|p1 Y<|BZ [1] 0 Y<|li Y (ccB B2z Y Y Y Y (λw' b=>B5H _ _ w' f g code 6 n b) λc5=>?_);refine Dx<|Dh (_::_::_::_::_::_::_::_::Hs) Y<|Ci _ Y (λbj=>?_) λbj=>?_
     ·refine Cr<|fl 6 C5B C5s Y<|q1 Y (FY (vs:=[(0,iv 3)]) (cs:=[iv 3,eS,nS]) Y (λ_=>by kernel_rfl) Y)<|li Y (FF C5g C6I Y (by decide) (by decide) Y Y Y Y Y Y λc6=>?_);refine CG (α:=ByteArray)<|WY (r:=(⟨3,⟨⟨#[]⟩,[]⟩⟩:Action))<|BZ [1,1,3] 0 Y<|li Y (GZ C5g C6I Y (by decide) Y Y Y Y Y Y (by simp) (by simp) λa0=>?_);refine q1 Y (Db C5B Y Y (q:=3) Y)<|Dp (λw' b=>CZ (k:=0) b Y) ?_;intro ae;refine li Y<|AZ (vs:=[a0]) (cs':=[.string ⟨#[114]⟩,iv c,v,a0]) 6 A1Q Y Y Y Y Y (AO ae) (AB ae BR) (by simp) Y ?_;refine Dx<|Dh (ov [a0] (([]++ [(⟨h,⟨d.p5,m⟩⟩:Action)])++ [(⟨3,⟨⟨#[]⟩,[]⟩⟩:Action)]:(List Action))::_::_::_::_::_::bx a2 [.string ⟨#[114]⟩,iv c,v,a0]::_::Hs) Y<|Cq<|Cq ?_;have af:okI h:=by(have hq:=ao;simp only[List.mem_cons,List.not_mem_nil,or_false] at hq;unfold okI;omega)
      refine Cr<|q1 Y (C9 6 C5D Y Y Y)<|BZ [5] 0 Y<|BB (α:=ByteArray) (β:=Int ×(List C1L)×(List Action)) (c1:=[.string ⟨#[114]⟩]) (c2:=[iv c,v,nS]) (x:=(⟨⟨#[114]⟩,c,cs,[]⟩:C1M).y) (y:=((⟨⟨#[114]⟩,c,cs,[]⟩:C1M).p3,(⟨⟨#[114]⟩,c,cs,[]⟩:C1M).q,(⟨⟨#[114]⟩,c,cs,[]⟩:C1M).q0)) Y Y<|BZ [] 1 Y<|BB (α:=Int) (β:=(List C1L)×(List Action)) (c1:=[iv c]) (c2:=[v,nS]) (x:=(⟨⟨#[114]⟩,c,cs,[]⟩:C1M).p3) (y:=((⟨⟨#[114]⟩,c,cs,[]⟩:C1M).q,(⟨⟨#[114]⟩,c,cs,[]⟩:C1M).q0)) Y Y<|BZ [] 1 Y<|BB (α:=List C1L) (β:=List Action) (c1:=[v]) (c2:=[nS]) (x:=(⟨⟨#[114]⟩,c,cs,[]⟩:C1M).q) (y:=((⟨⟨#[114]⟩,c,cs,[]⟩:C1M).q0)) Y Y<|BZ [1] 0 Y<|BZ [2,2] 0 Y<|iB (r:=(⟨⟨#[114]⟩,c,(⟨⟨#[114]⟩,c,cs,[]⟩:C1M).q,([]++ [(⟨h,⟨d.p5,m⟩⟩:Action)])++ [(⟨3,⟨⟨#[]⟩,[]⟩⟩:Action)]⟩:C1M))<|qv pX Y (λw' b=>SK (rO (k:=0) b Y) (by exact(B9o (by omega) a7 (by omega) af (by omega) a6 ak).2) (by exact(B9o (by omega) a7 (by omega) af (by omega) a6 ak).1))<|Pe Y<|Dh (ov [.string ⟨#[114]⟩,iv c,v,a0] ((⟨⟨#[114]⟩,c,(⟨⟨#[114]⟩,c,cs,[]⟩:C1M).q,([]++ [(⟨h,⟨d.p5,m⟩⟩:Action)])++ [(⟨3,⟨⟨#[]⟩,[]⟩⟩:Action)]⟩:C1M):C1M)::ov [nS] ((⟨⟨#[114]⟩,c,cs,[]⟩:C1M).q0:(List Action))::_::_::_::_::_::_::Hs) Y<|CN Y (λaz=>?_) λaz=>?_
      ·refine Sr<|p1 Y<|BZ [2] 0 Y<|li Y (ccR (α:=C1M) A3r Y Y Y Y (λw' b=>B5q _ _ w' f g code 99 n (by omega) b) λo bs b0=>?_);refine Dp (λw' b=>TN<|rO (k:=0) b Y) ?_;rintro⟨ai,ag,rfl,b1,b2⟩;refine MS 86 (v':=(.agg #[.string o.y,iv o.p3,ai,ag])) Y Y Y<|li Y<|AZ (vs:=[.string o.y,iv o.p3,ai,ag]) (cs':=[.string o.y,iv o.p3,ai,ag]) 8 A6M Y Y Y Y Y Y (AB Y<|AB Y<|AB b1<|AB b2 BR) (by simp) Y ?_;refine Dx<|Ct<|Xr (eW (cs:=[.string o.y,iv o.p3,ai,ag]) 8 C5D Y Y Y λw' b=>⟨o,[.string o.y,iv o.p3,ai,ag],?_,Y,b.fd [1,1,8,8,8,8,8,8,8] 7 Y⟩);exact b0
      ·refine Sk<|Sr<|q1 Y (C9 6 C5D Y Y Y)<|Dp (λw' b=>A2 (by obtain⟨bk,bl,e_,aj,b9⟩:=BC (rO (k:=0) b rfl);cases e_;exact aj)) ?_;intro b3;refine li Y<|AZ (vs:=[.string ⟨#[114]⟩,iv c,v,a0]) (cs':=[.string ⟨#[114]⟩,iv c,v,a0]) 7 A6M Y Y Y Y Y Y (AB Y<|AB Y<|AB b3<|AB ae BR) (by simp) Y ?_;refine Dx<|Ct (eW (cs:=[.string ⟨#[114]⟩,iv c,v,a0]) 7 C5D Y Y Y λw' b=>⟨(⟨⟨#[114]⟩,c,(⟨⟨#[114]⟩,c,cs,[]⟩:C1M).q,([]++ [(⟨h,⟨d.p5,m⟩⟩:Action)])++ [(⟨3,⟨⟨#[]⟩,[]⟩⟩:Action)]⟩:C1M),[.string ⟨#[114]⟩,iv c,v,a0],?_,Y,b.fd [2,1,7,7,7,7,7,7] 6 Y⟩)
       assumption
     ·refine Sk<|Cq<|Cq ?_;have af:okI h:=by(have hq:=ao;simp only[List.mem_cons,List.not_mem_nil,or_false] at hq;unfold okI;omega)
      refine Cr<|q1 Y (C9 6 C5D Y Y Y)<|BZ [5] 0 Y<|BB (α:=ByteArray) (β:=Int ×(List C1L)×(List Action)) (c1:=[.string ⟨#[114]⟩]) (c2:=[iv c,v,nS]) (x:=(⟨⟨#[114]⟩,c,cs,[]⟩:C1M).y) (y:=((⟨⟨#[114]⟩,c,cs,[]⟩:C1M).p3,(⟨⟨#[114]⟩,c,cs,[]⟩:C1M).q,(⟨⟨#[114]⟩,c,cs,[]⟩:C1M).q0)) Y Y<|BZ [] 1 Y<|BB (α:=Int) (β:=(List C1L)×(List Action)) (c1:=[iv c]) (c2:=[v,nS]) (x:=(⟨⟨#[114]⟩,c,cs,[]⟩:C1M).p3) (y:=((⟨⟨#[114]⟩,c,cs,[]⟩:C1M).q,(⟨⟨#[114]⟩,c,cs,[]⟩:C1M).q0)) Y Y<|BZ [] 1 Y<|BB (α:=List C1L) (β:=List Action) (c1:=[v]) (c2:=[nS]) (x:=(⟨⟨#[114]⟩,c,cs,[]⟩:C1M).q) (y:=((⟨⟨#[114]⟩,c,cs,[]⟩:C1M).q0)) Y Y<|BZ [1] 0 Y<|BZ [3,2] 0 Y<|iB (r:=(⟨⟨#[114]⟩,c,(⟨⟨#[114]⟩,c,cs,[]⟩:C1M).q,[]++ [(⟨h,⟨d.p5,m⟩⟩:Action)]⟩:C1M))<|qv pX Y (λw' b=>SK (rO (k:=0) b Y) (by exact(B9n (by omega) a7 (by omega) af (by omega) a6 ak).2) (by exact(B9n (by omega) a7 (by omega) af (by omega) a6 ak).1))<|Pe Y<|Dh (ov [.string ⟨#[114]⟩,iv c,v,u] ((⟨⟨#[114]⟩,c,(⟨⟨#[114]⟩,c,cs,[]⟩:C1M).q,[]++ [(⟨h,⟨d.p5,m⟩⟩:Action)]⟩:C1M):C1M)::ov [nS] ((⟨⟨#[114]⟩,c,cs,[]⟩:C1M).q0:(List Action))::_::_::_::_::_::_::Hs) Y<|CN Y (λb4=>?_) λb4=>?_
      ·refine Sr<|p1 Y<|BZ [2] 0 Y<|li Y (ccR (α:=C1M) A3r Y Y Y Y (λw' b=>B5q _ _ w' f g code 99 n (by omega) b) λp bt b5=>?_);refine Dp (λw' b=>TN<|rO (k:=0) b Y) ?_;rintro⟨ah,v53,rfl,b6,b7⟩;refine MS 86 (v':=(.agg #[.string p.y,iv p.p3,ah,v53])) Y Y Y<|li Y<|AZ (vs:=[.string p.y,iv p.p3,ah,v53]) (cs':=[.string p.y,iv p.p3,ah,v53]) 8 A6M Y Y Y Y Y Y (AB Y<|AB Y<|AB b6<|AB b7 BR) (by simp) Y ?_;refine Dx<|Ct<|Xr (eW (cs:=[.string p.y,iv p.p3,ah,v53]) 8 C5D Y Y Y λw' b=>⟨p,[.string p.y,iv p.p3,ah,v53],?_,Y,b.fd [1,1,8,8,8,8,8,8,8] 7 Y⟩);exact b5
      ·refine Sk<|Sr<|q1 Y (C9 6 C5D Y Y Y)<|Dp (λw' b=>A2 (by obtain⟨bk,bl,e_,aj,b9⟩:=BC (rO (k:=0) b rfl);cases e_;exact aj)) ?_;intro b8;refine li Y<|AZ (vs:=[.string ⟨#[114]⟩,iv c,v,u]) (cs':=[.string ⟨#[114]⟩,iv c,v,u]) 7 A6M Y Y Y Y Y Y (AB Y<|AB Y<|AB b8<|AB ab BR) (by simp) Y ?_;refine Dx<|Ct (eW (cs:=[.string ⟨#[114]⟩,iv c,v,u]) 7 C5D Y Y Y λw' b=>⟨(⟨⟨#[114]⟩,c,(⟨⟨#[114]⟩,c,cs,[]⟩:C1M).q,[]++ [(⟨h,⟨d.p5,m⟩⟩:Action)]⟩:C1M),[.string ⟨#[114]⟩,iv c,v,u],?_,Y,b.fd [2,1,7,7,7,7,7,7] 6 Y⟩)
       assumption
theorem B6X(w0:World)(q:List Chunk)(w:World)(b:Nat)(c:Value)(code:List UInt8)(i:Gd.rd w0 [c] code)(r:St w0 (cu b c code.length::q) w):Cy 143 [(pv b)] w (λe w'=>∃(y:C1M) (cs:List Value),(CR y=true)/\e= .returned (Gd.vl (C1M) cs)/\St w0 (ov cs y::cu b c code.length::q) w'):=by
 have v:=rM i;refine CX 9 Tryz.func143 Y Y Y r<|Sr (aL C5q Y λg2=>?_);refine Dx<|Dh (bx g2 [eS,iv 0,nS,nS]::cu b c code.length::q) Y<|Cq<|Sr<|p1 Y<|BZ [1] 0 Y<|li Y (ccB B2z Y Y Y Y (λw' d=>B5H _ _ w' b c code 3 i d) λy3=>?_);refine Dx<|Dh (_::_::q) Y<|Ci _ Y (λx=>?_) λx=>?_
 ·refine Sr<|p1 Y<|li Y (ccR (α:=C1M) A0F Y Y Y Y (λw' d=>B6s _ _ w' b c code i d) λf z s=>?_);refine Dp (λw' d=>TN<|rO (k:=0) d Y) ?_;rintro⟨j,l,rfl,t,m⟩;refine MS 6 (v':=(.agg #[.string f.y,iv f.p3,j,l])) Y Y Y<|li Y<|AZ (vs:=[.string f.y,iv f.p3,j,l]) (cs':=[.string f.y,iv f.p3,j,l]) 2 A6M Y Y Y Y Y Y (AB Y<|AB Y<|AB t<|AB m BR) (by simp) Y ?_;refine Dx<|Ct<|Xr (eW (cs:=[.string f.y,iv f.p3,j,l]) 2 C5D Y Y Y λw' d=>⟨f,[.string f.y,iv f.p3,j,l],?_,Y,d.fd [1,1,2] 1 Y⟩);exact s
 ·refine Sk<|Sr<|p1 Y<|li Y (ccR (α:=C1M) A3r Y Y Y Y (λw' d=>B5q _ _ w' b c code 99 i (by omega) d) λa u n=>?_);refine Dp (λw' d=>TN<|rO (k:=0) d Y) ?_;rintro⟨g,h,rfl,o,p⟩;refine MS 8 (v':=(.agg #[.string a.y,iv a.p3,g,h])) Y Y Y<|li Y<|AZ (vs:=[.string a.y,iv a.p3,g,h]) (cs':=[.string a.y,iv a.p3,g,h]) 2 A6M Y Y Y Y Y Y (AB Y<|AB Y<|AB o<|AB p BR) (by simp) Y ?_;refine Dx<|Ct (eW (cs:=[.string a.y,iv a.p3,g,h]) 2 C5D Y Y Y λw' d=>⟨a,[.string a.y,iv a.p3,g,h],?_,Y,d.fd [1,1,2] 1 Y⟩);exact n
theorem C2g(w0:World)(h:List Chunk)(w:World)(b:Nat)(f:Value)(code:List UInt8)(c:Int)(o:Gd.rd w0 [f] code)(h0:0<=c)(h4:c<=4)(a1:St w0 (cu b f code.length::h) w):Cy 102 [(pv b),(iv c)] w (λe w'=>∃(y:List C1M) (cs:List Value),(AR y=true/\(y.length:Int)<=c)/\e= .returned (Gd.vl (List C1M) cs)/\St w0 (ov cs y::cu b f code.length::h) w'):=by
 have a7:=rM o;refine CX 28 Tryz.func102 Y Y Y a1<|Sr<|Pe Y<|Dh (cu b f code.length::h) Y<|Sr<|li Y (FL (α:=C1M) lW Y Y Y λv2=>?_);refine Pe Y<|Dh (ov [v2] ([]:(List C1M))::_::h) Y<|Cq<|Sr<|P2 Y Y<|q1 Y (DW Y Y Y Y (by omega))<|BZ [1] 0 Y<|li Y (ccI B4D Y Y Y Y (λw' g=>C8v _ _ w' b f code (c+1) o g) λy3 s=>?_);have a5:=s.1;have a6:=s.2;refine Pe Y<|Dh (_::_::h) Y<|Cb<|Cl (λm_ z w'=>∃(d:Int),∃(l:List C1M),∃(v:Value),(0<=d)/\((l.length:Int)+d=y3)/\(C3G l y3)/\m_=d.toNat/\Fits z 28 [(0,pv b),(5,v),(6,iv d)]/\St w0 (cu b f code.length::ov [v] (l:(List C1M))::h) w') ?_ ?_
 ·refine A3 1 Y (show([]:(List C1M))=([]) from by first|rfl|simp|(simp;omega)) λz w' p g=>⟨_,y3,[],v2,?_,?_,?_,Y,p.wk Y,g⟩
  ·first|assumption|omega|simp
  ·simp
  ·exact C3H _
 ·rintro m_ z w' ⟨d,l,v,a8,hl,m,rfl,p,g⟩;refine D.use ?_ p g;clear p g z w';refine Cq<|Sr<|PE 2 Y<|Dh (_::_::h) Y<|Cd Y (λa2=>?_) λa2=>?_
  ·refine Sk<|Cq<|Cb<|Sr<|p1 Y<|li Y (ccR (α:=C1M) B3U Y Y Y Y (λw' g=>B6X _ _ w' b f code o g) λa a9 a3=>?_);refine Dp (λw' g=>TN<|rO (k:=0) g Y) ?_;rintro⟨i,j,rfl,a4,t⟩;refine MS 18 (v':=(.agg #[.string a.y,iv a.p3,i,j])) Y Y Y (aL C5q Y λa0=>?_);refine li Y<|AZ (vs:=[.string a.y,iv a.p3,i,j]) (cs':=[.string a.y,iv a.p3,i,j]) 0 A6M Y Y Y Y Y Y (AB Y<|AB Y<|AB a4<|AB t BR) (by simp) Y ?_;refine Dx<|Dh (bx a0 [.string a.y,iv a.p3,i,j]::ov [.string a.y,iv a.p3,i,j] (a:C1M)::_::_::h) Y<|Sr<|p1 Y<|qv A3s Y (λw' g=>UH (by first|assumption|omega|(unfold ED at*;split at* <;>omega)))<|q1 Y (aQ Y Y Y (by have:=fY (n:=d) (by omega) (by omega);show 1+(ES d).size<=9223372036854775807;omega))<|q1 Y (Db C5t Y Y (q:=0) Y)<|li Y<|AZ (vs:=[.string (⟨#[114]⟩++(ES d))]) (cs':=[.string (⟨#[114]⟩++(ES d)),iv a.p3,i,j]) 0 VI Y Y Y Y Y Y (AB Y BR) (by simp) Y ?_;refine Dx<|Dh (bx a0 [.string (⟨#[114]⟩++(ES d)),iv a.p3,i,j]::_::_::_::h) Y<|Cr<|p1 Y<|q1 Y (C9 0 C5D Y Y Y)<|li Y (FF lW C5q Y (by decide) (by decide) Y Y Y Y Y Y λaa=>?_);refine BZ [2] 0 Y<|BB (α:=ByteArray) (β:=Int ×(List C1L)×(List Action)) (c1:=[.string a.y]) (c2:=[iv a.p3,i,j]) (x:=a.y) (y:=(a.p3,a.q,a.q0)) Y Y<|BZ [] 1 Y<|BB (α:=Int) (β:=(List C1L)×(List Action)) (c1:=[iv a.p3]) (c2:=[i,j]) (x:=a.p3) (y:=(a.q,a.q0)) Y Y<|BZ [] 1 Y<|BB (α:=List C1L) (β:=List Action) (c1:=[i]) (c2:=[j]) (x:=a.q) (y:=a.q0) Y Y<|BZ [1] 0 Y<|BZ [0,1] 0 Y<|iB (r:=(⟨(⟨#[114]⟩++(ES d)),a.p3,a.q,a.q0⟩:C1M))<|BZ [1,1,4] 0 Y<|li Y (GZ lW C5q Y (by decide) Y Y Y Y Y Y (by first|omega|(simp;omega)) (by first|omega|(simp;omega)) λu=>?_);refine p1 Y<|De<|Xb<|Xt<|Dh (ov [u] (l++ [(⟨(⟨#[114]⟩++(ES d)),a.p3,a.q,a.q0⟩:C1M)]:(List C1M))::_::_::h) Y<|Cr<|p1 Y<|q1 Y (B3 Y Y Y Y (by omega))<|Pe Y<|A3 0 Y (show(l++ [(⟨(⟨#[114]⟩++(ES d)),a.p3,a.q,a.q0⟩:C1M)]:(List C1M))=(l++ [(⟨(⟨#[114]⟩++(ES d)),a.p3,a.q,a.q0⟩:C1M)]) from by first|rfl|simp|(simp;omega)) λz w' p g=>⟨_,?_,(d-1),l++ [(⟨(⟨#[114]⟩++(ES d)),a.p3,a.q,a.q0⟩:C1M)],u,?_,?_,?_,Y,p.wk Y,g.fd [0,2,2] 1 Y⟩
   ·omega
   ·first|assumption|omega|simp
   ·simp;omega
   ·exact C2q m hl (by omega) a3
  ·refine Cx<|Xx<|Xx<|Xe<|Xt<|Sr<|PE 2 Y<|Ct (FV Y Y λw' g=>⟨l,[v],?_,Y,g.fd [0,1] 0 Y⟩);exact⟨C3I m (by omega) (by omega),by omega⟩
end Go.Sy.Drw2
end
