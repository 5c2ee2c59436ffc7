/-
  Contracts of functions of the program, walked (printed by a program of ours).
  Conditions: those that each theorem states.
-/
import Derived.Test.YtmjmglkogcomaaaGreatDoorCmp1
import Derived.Test.YtmjmglkogcomaaaGreatDoorProg
import Derived.Test.YtmjmglkogcomaaaGreatDoorMat2
section
set_option linter.unusedVariables false
set_option maxRecDepth 20000
namespace Go.Sy.Cmp2
open Go Go.RowKit Go.Proofs Go.Sy
open Go.Sy.Bel1 Go.Sy.Ev1 Go.Sy.Ev3 Go.Sy.Fmt1 Go.Sy.Eng1 Go.Sy.Eng2 Go.Sy.Eng3 Go.Sy.Eng4 Go.Sy.Num1 Go.Sy.Num2 Go.Sy.Fal2 Go.Sy.Cho2 Go.Sy.Cmp1
set_option maxHeartbeats 4000000 in
theorem R2(w o:World)(c:E4 o w)(a7:Value)(l:(List C3z))(ao:Gd.rd o [a7] l)(hn:l.length<=4294967296)(he:∀x∈l,DJ x.v<=1048576/\x.q2.length<=12):Cy 170 [a7] w (nO o w (BY l:List C3z)):=by
 have cb:=rM ao;refine CX 57 Tryz.func170 Y Y Y (GL w o)<|Sr<|Pe Y<|Dh [fz o o] Y<|Sr<|li Y (MZ (α:=C3z) o C5c Y Y Y λv2=>?_);refine Pe Y<|Dh [oz o v2 ([]:List C3z),_] Y<|Cq<|Sr<|Pe Y<|Cb<|Cl (λm_ u w'=>∃(a8:World),∃(i:Nat),∃(va:Value),(E4 o a8)/\(i<=l.length)/\m_=l.length-i/\Fits u 57 [(0,a7),(3,va),(4,nv i)]/\St w ([oz a8 va (BY (l.take i):List C3z),fz o a8]) w') ?_ ?_
 ·refine DZ 0 Y (show([]:(List C3z))=BY (l.take 0) from by exact gU l) λu w' s a=>⟨_,o,0,v2,E4.refl _,?_,Y,s.wk Y,a⟩
  ·first|assumption|omega|simp
 ·rintro m_ u w' ⟨a8,i,va,a9,cw,rfl,s,a⟩;refine D.use ?_ s a;clear s a u w';have aa:=Gd.rd_sub a9 ao;have bk:(BY (l.take i)).length=i:=by rw[RR,List.length_take];omega
  refine Cq<|Sr<|P2 Y Y<|dl C5c Y (AE aa)<|Pe Y<|Dh [_,_] Y<|Cd Y (λbe=>?_) λbe=>?_
  ·refine Sk<|Cq<|Cb<|Sr<|p1 Y<|q1 Y (A1N 0 C5c Y Y Y)<|Pe Y<|Sr<|P3 Y Y Y ?_;obtain⟨b,h⟩:=sI l i;have ab:=he _ (List.mem_of_getElem? h);obtain⟨cc,b6,ak⟩:=AC (n:=7) rfl aa h;obtain⟨cd,ce,cf,rfl,ap,aq,ar⟩:=BF ak;have bl:=rM ap;have bm:=rM aq;have bn:=rM ar;refine q1 Y (AJ (l:=l) (j:=i) C5c Y Y Y (λw' a=>B0 1 c a Y aa) Y<|lS h)<|q1 Y (SO 1 c Y C1g Y Y b6) (qs Y A0C Y (λw' a=>N2 (B0 1 c a Y ak) ab.1 (by omega)) λbo=>?_);refine Dp (λw' a=>F4<|rO (k:=0) a Y) ?_;rintro⟨v21,cr,cx,rfl,bp,bq,br⟩;refine li Y (FF C5c C2I Y (by decide) (by decide) Y Y Y Y Y Y λcg=>?_);refine AG [1,3,0,2] Y (MY c λt d ae=>?_);have au:=Gd.rd_sub d aa;have av:=Gd.rd_sub d ak;have aw:=LN.sub b6 d;refine MM (α:=C3z) 2 d Y ?_;obtain⟨b9,b8,bb,e_,bs,bt,bu⟩:=BF ae
   cases e_
   refine ML (α:=C3z) ae<|AG [3,0,2,1] Y<|li Y (TK (α:=C3z) C5c C2I Y (by decide) Y Y Y Y Y Y (by omega) (by omega) λb4=>?_);refine Pe Y<|Dh [oz t b4 ((BY<|l.take i)++ [b]:List C3z),fz o t] Y<|Cq<|Cb<|Cl (λm_ u w'=>∃(e:World),∃(k:Nat),∃(vb:Value),(E4 t e)/\(k<=i)/\(∀p,k<=p->∀y,(BY<|l.take i)[p]?=some y->0<JC y b)/\m_=k+1/\Fits u 57 [(0,a7),(3,vb),(4,nv i),(5,nv k)]/\St w ([oz e vb (IF (BY<|l.take i) b k:List C3z),fz o e]) w') ?_ ?_
   ·refine DZ 0 Y (show((BY (l.take i))++ [b]:(List C3z))=IF (BY (l.take i)) b ((BY (l.take i)).length) from by rw[XU,bk]) λu w' s a=>⟨_,t,(BY<|l.take i).length,b4,E4.refl _,?_,?_,Y,s.wk Y,a⟩
    ·first|assumption|omega|simp
    ·intro p hp y hy;have:=lS hy;omega
   ·rintro m_ u w' ⟨e,k,vb,f,b3,an,rfl,s,a⟩;refine D.use ?_ s a;clear s a u w';have z:=Gd.rd_sub f au;have a0:=Gd.rd_sub f av;have a1:=LN.sub aw f;have cp:(IF (BY (l.take i)) b k).length=i+1:=by rw[kJ (by omega)];omega
    refine Cq<|Cq ?_;obtain⟨y0,m⟩:=sI (IF (BY (l.take i)) b k) (k-1);have bj:=he _ (yM h m);refine vO m λbv g=>?_
    obtain⟨ch,ci,cj,rfl,ax,ay,az⟩:=BF g;have bw:=rM ax;have bx:=rM ay;have bz:=rM az;refine A0 mixed [12,13,14] (by kernel_rfl)<|tK 12 [0,1,2] Y<|EY 25 Y Y (λb0=>?_) λb0=>?_
    ·refine tK 10 [3,4] Y<|Tk 5 Y Y (B3 Y Y Y (r:=((k-1:Nat):Int)) (by omega) (by omega))<|Tk 6 Y Y (zJ 0 C5c Y Y Y Y Y)<|Tk 7 Y Y (lza (n:=7) 0 Y C1g Y Y Y)<|tK 5 [8,9] Y<|Tk 10 Y Y (AJ (l:=l) (j:=i) C5c Y Y Y (λw' a=>B0 1 c a Y z) Y<|lS h)<|Tk 11 Y Y (SO 1 c Y C1g Y Y a1)<|ty 12 Y Y<|cv A0B Y Y Y Y (λw' a=>OL (B0 1 c a Y g) (B0 1 c a Y a0) bj.2 ab.2) ?_;refine tZ Y<|tW 13 Y Y Y<|tW 14 Y Y Y<|tE<|Xt<|Cd Y (λb1=>?_) λb1=>?_
     ·refine Sk<|AH [0,3,4,5] Y<|Cb<|Sr<|P3 Y Y Y<|p1 Y<|q1 Y (B3 Y Y Y (r:=((k-1:Nat):Int)) (by omega) (by omega))<|q1 Y (zJ 0 C5c Y Y Y Y Y)<|q1 Y (lza (n:=7) 0 Y C1g Y Y Y)<|YQ m g ?_;obtain⟨ck,af⟩:=sI (IF (BY (l.take i)) b k) k;refine q1 Y (AJ (l:=IF (BY<|l.take i) b k) (j:=k) C5c Y Y Y (λw' a=>hT (i:=0) (j:=1) c a Y Y) Y<|lS af)<|ML (α:=C3z) g<|AG [1,0,2] Y<|li Y<|soZ (α:=C3z) Y C1m Y Y Y Y Y (lS af) ?_;refine Dx<|Dh [oz e vb ((IF (BY<|l.take i) b k).set k y0:List C3z),_] Y<|Cr<|p1 Y<|q1 Y (B3 Y Y Y (r:=((k-1:Nat):Int)) (by omega) (by omega))<|p1 Y<|De<|Xb<|Xt<|DZ 0 Y (show((IF (BY (l.take i)) b k).set k y0:(List C3z))=IF (BY (l.take i)) b (k-1) from by exact dK (by omega) (by omega) m) λu w' s a=>⟨_,?_,e,k-1,vb,f,?_,?_,Y,s.wk Y,a⟩
      ·omega
      ·first|assumption|omega|simp
      ·exact tA (p:=λy=>0<JC y b) ⟨by omega,by omega⟩ an m (by omega)
     ·refine Cx<|Xx<|Xx<|Xe<|Xt<|AH [0,3,4,5] Y<|Cr<|P3 Y Y Y<|p1 Y<|q1 Y (AJ (l:=l) (j:=i) C5c Y Y Y (λw' a=>B0 1 c a Y z) Y<|lS h)<|q1 Y (SO 1 c Y C1g Y Y a1) (qs Y A0C Y (λw' a=>N2 (B0 1 c a Y a0) ab.1 (by omega)) λc0=>?_);refine Dp (λw' a=>F4<|rO (k:=0) a Y) ?_;rintro⟨cs,ct,cq,rfl,c1,c2,c3⟩;refine AG [1,0,2] Y<|YQ m g ?_;obtain⟨cl,ag⟩:=sI (IF (BY (l.take i)) b k) k;refine q1 Y (AJ (l:=IF (BY<|l.take i) b k) (j:=k) C5c Y Y Y (λw' a=>hT (i:=0) (j:=2) c a Y Y) Y<|lS ag)<|AG [1,2,0] Y (MY c λa2 ah ai=>?_);refine MM (α:=C3z) 1 ah Y ?_;obtain⟨ba,bd,bc,e_,c4,c5,c6⟩:=BF ai
      cases e_
      refine ML (α:=C3z) ai<|AG [2,0,1] Y<|li Y<|soZ (α:=C3z) Y C1m Y Y Y Y Y (lS ag) ?_;refine De<|Xb<|Xt<|Dh [oz a2 vb ((IF (BY<|l.take i) b k).set k b:List C3z),fz o a2] Y<|Cr<|p1 Y<|ad (i+1) Y<|Pe Y<|DZ 0 Y (show((IF (BY (l.take i)) b k).set k b:(List C3z))=BY (l.take (i+1)) from by exact kP h b3 an (by exact .inr ⟨_,m,by omega⟩)) λu w' s a=>⟨_,?_,a2,i+1,vb,(((a9.trans d).trans f).trans ah),?_,Y,s.wk Y,a⟩
      ·omega
      ·first|assumption|omega|simp
    ·refine tK 1 [3,4,5,6,7,8,9,10,11,12,13] Y<|tW 14 Y Y Y<|tE<|Xt<|G7 Y<|Cx<|Xx<|Xx<|Xe<|Xt<|AH [0,3,4,5] Y<|Cr<|P3 Y Y Y<|p1 Y<|q1 Y (AJ (l:=l) (j:=i) C5c Y Y Y (λw' a=>B0 1 c a Y z) Y<|lS h) ?_;refine q1 Y (SO 1 c Y C1g Y Y a1) (qs Y A0C Y (λw' a=>N2 (B0 1 c a Y a0) ab.1 (by omega)) λc7=>?_);refine Dp (λw' a=>F4<|rO (k:=0) a Y) ?_;rintro⟨cm,cu,cn,rfl,c8,c9,ca⟩;refine AG [1,0,2] Y<|YQ m g ?_;obtain⟨co,aj⟩:=sI (IF (BY (l.take i)) b k) k;refine q1 Y (AJ (l:=IF (BY<|l.take i) b k) (j:=k) C5c Y Y Y (λw' a=>hT (i:=0) (j:=2) c a Y Y) Y<|lS aj)<|AG [1,2,0] Y (MY c λq a3 a4=>?_);refine MM (α:=C3z) 1 a3 Y ?_;obtain⟨b5,b7,b2,e_,bf,bg,bh⟩:=BF a4
     cases e_
     refine ML (α:=C3z) a4<|AG [2,0,1] Y<|li Y<|soZ (α:=C3z) Y C1m Y Y Y Y Y (lS aj) ?_;refine De<|Xb<|Xt<|Dh [oz q vb ((IF (BY<|l.take i) b k).set k b:List C3z),fz o q] Y<|Cr<|p1 Y<|ad (i+1) Y<|Pe Y<|DZ 0 Y (show((IF (BY (l.take i)) b k).set k b:(List C3z))=BY (l.take (i+1)) from by exact kP h b3 an (by left;omega)) λu w' s a=>⟨_,?_,q,i+1,vb,(((a9.trans d).trans f).trans a3),?_,Y,s.wk Y,a⟩
     ·omega
     ·first|assumption|omega|simp
  ·refine Cx<|Xx<|Xx<|Xe<|Xt<|Sr<|PE 2 Y<|Ct (IJ (α:=C3z) c λa5 al a6=>?_);have bi:=rM a6;have am:Gd.rd a5 [va] (BY l:List C3z):=(show(BY (l.take i):List C3z)=BY l from by exact U0 (by omega))▸a6;exact FV rfl rfl λw' a=>⟨[va],a5,rfl,H3 (k:=0) a rfl (a9.trans al),am⟩
end Go.Sy.Cmp2
end
/-
  Contracts of functions of the program, walked (printed by a program of ours).
  Conditions: those that each theorem states.
-/
section
set_option linter.unusedVariables false
set_option maxRecDepth 20000
namespace Go.Sy.Mat3
open Go Go.RowKit Go.Proofs Go.Sy
open Go.Sy.Bel1 Go.Sy.Ev1 Go.Sy.Fmt1 Go.Sy.Eng1 Go.Sy.Eng2 Go.Sy.Eng3 Go.Sy.Eng4 Go.Sy.Num1 Go.Sy.Num2 Go.Sy.Fal2 Go.Sy.Cho2 Go.Sy.Mat1 Go.Sy.Num3 Go.Sy.Mat2 Go.Sy.Cmp2
set_option maxHeartbeats 2000000 in
theorem QY(w o:World)(q:E4 o w)(a:Value)(rules:(List C1M))(a6:Value)(l:(List C1N))(e:Value)(fired:(List C1O))(g:Gd.rd o [a] rules)(a7:Gd.rd o [a6] l)(h:Gd.rd o [e] fired)(hn:DD BG rules<=1048576)(hl:DD CM l<=1048576)(ho:LR H9 rules)(aa:LR MA l):Cy 135 [a,a6,e] w (nO o w (EK rules l fired:List C3z)):=by
 have bl:=rM g;have bm:=rM a7;have bn:=rM h;have bt:=nJ rules (l.map C1N.j);refine CX 46 Tryz.func135 Y Y Y (GL w o)<|Sr<|Pe Y<|Dh [fz o o] Y<|Sr<|li Y (MZ (α:=C3z) o C5c Y Y Y λv4=>?_);refine Pe Y<|Dh [oz o v4 ([]:List C3z),_] Y<|Sr<|P2 Y Y (ql B4U Y (λw' b=>QL (B0 1 q b Y a7) hl) λv5=>?_);refine AG [0,2,1] Y (MY q λbo r ab=>?_);have ae:=Gd.rd_sub r g;have af:=Gd.rd_sub r a7;have ag:=Gd.rd_sub r h;refine MM (α:=C3z) 1 r Y ?_;have b7:=rM ab;refine li Y (cz (α:=List Match) A4o Y Y Y Y q (λw' a8=>S0 w' _ a8 a rules v5 (l.map C1N.j) ae ab hn ho<|jW aa) λb8 m i s=>?_);have ah:=Gd.rd_sub i ae;have ai:=Gd.rd_sub i af;have aj:=Gd.rd_sub i ag;refine MM (α:=C3z) 1 i Y ?_;obtain⟨v21,rfl⟩:=CL s;have b9:=rM s;refine MS 16 (v':=v21) Y Y Y<|Pe Y<|Dh [fz o m,oz m v4 ([]:List C3z)] Y<|Cq<|Sr<|Pe Y<|Cb<|Cl (λm_ ac w'=>∃(f:World),∃(k:Nat),∃(v:Value),(E4 m f)/\(k<=(DX rules<|l.map C1N.j).length)/\m_=(DX rules<|l.map C1N.j).length-k/\Fits ac 46 [(0,a),(1,a6),(2,e),(7,v),(8,v21),(9,nv k)]/\St w ([fz o f,oz f v (((DX rules<|l.map C1N.j).take k).filterMap (DU rules l fired):List C3z)]) w') ?_ ?_
 ·refine DZ 1 Y (show([]:(List C3z))=((DX rules (l.map C1N.j)).take 0).filterMap (DU rules l fired) from by exact uA _ _) λac w' hf b=>⟨_,m,0,v4,E4.refl _,?_,Y,hf.wk Y,b⟩
  ·first|assumption|omega|simp
 ·rintro m_ ac w' ⟨f,k,v,c,hk,rfl,hf,b⟩;refine D.use ?_ hf b;clear hf b ac w';have ak:=Gd.rd_sub c ah;have al:=Gd.rd_sub c ai;have am:=Gd.rd_sub c aj;have t:=Gd.rd_sub c s;have bu:=U4 (DU rules l fired) (DX rules (l.map C1N.j)) k;refine Cq<|Sr<|P2 Y Y<|dl C6F Y (AE t)<|Pe Y<|Dh [_,_] Y<|Cd Y (λan=>?_) λan=>?_
  ·refine Sk<|Cq<|Cb<|Sr<|P3 Y Y Y<|p1 Y ?_;obtain⟨d,p⟩:=sI (DX rules (l.map C1N.j)) k;have bs:=eP p;obtain⟨ba,ao,a1⟩:=AC (n:=3) rfl t p;obtain⟨bp,bq,rfl,ap,aq⟩:=FG a1;have bb:=rM ap;have bc:=rM aq;refine q1 Y (AJ (l:=DX rules<|l.map C1N.j) (j:=k) C6F Y Y Y (λw' b=>B0 0 q b Y t) Y<|lS p)<|q1 Y (SO 0 q Y C6p Y Y ao) (qc2 A4p Y (λw' b=>WG (B0 0 q b Y ak) (B0 0 q b Y al) (B0 0 q b Y a1) hn (by omega) hl ho aa) λbd ar=>?_);refine Dp (λw' b=>F4<|rO (k:=0) b Y) ?_;rintro⟨y,a0,z,rfl,au,av,aw⟩;refine Dp (λw' b=>show ar=[(.bool (G9 rules l d))] from rO (k:=1) b Y) ?_;rintro rfl;refine MS 30 (v':=(.tuple #[(.agg #[.string ((CW rules l d).v.p7),y,a0,iv ((CW rules l d).p3),z,iv ((CW rules l d).p9),iv ((CW rules l d).p0)]),.bool<|G9 rules l d])) Y Y Y<|AG [0,2,3] Y<|P3 Y Y Y (aL C2I Y λb5=>?_);refine li Y<|AZ (vs:=[.string ((CW rules l d).v.p7),y,a0,iv ((CW rules l d).p3),z,iv ((CW rules l d).p9),iv ((CW rules l d).p0)]) (cs':=[.string ((CW rules l d).v.p7),y,a0,iv ((CW rules l d).p3),z,iv ((CW rules l d).p9),iv ((CW rules l d).p0)]) 0 C1m Y Y Y Y Y Y (AB Y<|AB au<|AB av<|AB Y<|AB aw<|AB Y<|AB Y BR) (by simp) Y ?_;refine Pe Y<|Dh [bx b5 [.string ((CW rules l d).v.p7),y,a0,iv ((CW rules l d).p3),z,iv ((CW rules l d).p9),iv ((CW rules l d).p0)],ov [.string ((CW rules l d).v.p7),y,a0,iv ((CW rules l d).p3),z,iv ((CW rules l d).p9),iv ((CW rules l d).p0)] (CW rules l d:C3z),_,_] Y<|Sr<|P2 Y Y<|gs 34 Y Y (λb6=>?_) λb6=>?_
   ·refine p1 Y<|q1 Y (C9 0 C1g Y Y Y)<|qv A4z Y (λw' b=>O2 (B0 2 q b Y am)<|rO (k:=1) b Y)<|PE 2 Y<|AH [0,1,2,7,8,9,10,39] Y<|CN Y (λax=>?_) λax=>?_
    ·refine Cr<|p1 Y<|q1 Y (C9 0 C1g Y Y Y)<|li Y (FF C5c C2I Y (by decide) (by decide) Y Y Y Y Y Y λbr=>?_);refine AG [2,3,0,1,4] Y (MY q λu a2 a3=>?_);refine MM (α:=C3z) 3 a2 Y ?_;obtain⟨b4,b3,b2,e_,be,bf,bg⟩:=BF a3
     cases e_
     refine ML (α:=C3z) a3<|AG [4,0,2,1,3] Y<|li Y (TK (α:=C3z) C5c C2I Y (by decide) Y Y Y Y Y Y (by omega) (by omega) λb1=>?_);refine p1 Y<|De<|Xb<|Xt<|Dh [oz u b1 ((((DX rules<|l.map C1N.j).take k).filterMap (DU rules l fired))++ [CW rules l d]:List C3z),fz o u,_] Y<|Cr<|p1 Y<|ad (k+1) Y<|Pe Y<|DZ 0 Y (show((((DX rules (l.map C1N.j)).take k).filterMap (DU rules l fired))++ [CW rules l d]:(List C3z))=((DX rules (l.map C1N.j)).take (k+1)).filterMap (DU rules l fired) from by exact gV p (A5y ‹_› ‹_›)) λac w' hf b=>⟨_,?_,u,k+1,b1,c.trans a2,?_,Y,hf.wk Y,b.pk [1,0] Y Y⟩
     ·omega
     ·first|assumption|omega|simp
    ·refine Ck<|Xb<|Xt<|Cr<|p1 Y<|ad (k+1) Y<|Pe Y<|DZ 3 Y (show(((DX rules (l.map C1N.j)).take k).filterMap (DU rules l fired):(List C3z))=((DX rules (l.map C1N.j)).take (k+1)).filterMap (DU rules l fired) from by exact aA p (uZ (.inr ‹_›))) λac w' hf b=>⟨_,?_,f,k+1,v,c,?_,Y,hf.wk Y,b.pk [2,3] Y Y⟩
     ·omega
     ·first|assumption|omega|simp
   ·refine PE 5 Y<|AH [0,1,2,7,8,9,10,39] Y<|G7 Y<|Ck<|Xb<|Xt<|Cr<|p1 Y<|ad (k+1) Y<|Pe Y<|DZ 3 Y (show(((DX rules (l.map C1N.j)).take k).filterMap (DU rules l fired):(List C3z))=((DX rules (l.map C1N.j)).take (k+1)).filterMap (DU rules l fired) from by exact aA p (uZ (.inl ‹_›))) λac w' hf b=>⟨_,?_,f,k+1,v,c,?_,Y,hf.wk Y,b.pk [2,3] Y Y⟩
    ·omega
    ·first|assumption|omega|simp
  ·refine Cx<|Xx<|Xx<|Xe<|Xt<|Sr<|p1 Y<|AG [1,0] Y (IJ (α:=C3z) q λbh ay a4=>?_);have bi:=rM a4;refine li Y (cz (α:=List C3z) C8h Y Y Y Y q (λw' a8=>R2 w' _ a8 v (((DX rules<|l.map C1N.j).take k).filterMap (DU rules l fired)) a4 (by first|assumption|omega) nL) λbj a5 az x=>?_);obtain⟨a9,rfl⟩:=CL x;have bk:=rM x;refine MS 45 (v':=a9) Y Y Y<|Pe Y<|Ct ?_;have b0:Gd.rd a5 [a9] (EK rules l fired:List C3z):=(show(BY (((DX rules (l.map C1N.j)).take k).filterMap (DU rules l fired)):List C3z)=EK rules l fired from by exact zA (by omega))▸x;exact FV rfl rfl λw' b=>⟨[a9],a5,rfl,H3 (k:=0) b rfl ((((r.trans i).trans c).trans ay).trans az),b0⟩
theorem VH(w f:World)(y:E4 f w)(i:List Value)(e:C1P)(j:Gd.rd f i e)(hn:DI e<=1048576)(z:QC e):Cy 99 [(.agg i.toArray)] w (nO f w (HY e:List C3z)):=by
 obtain⟨u1,u3,u5,u7,rfl,l,n,o,a0⟩:=C6 j;have aa:=rM l;have a4:=rM n;have a5:=rM o;have a6:=rM a0;have a1:=hn;unfold DI at hn;refine CX 14 Tryz.func99 Y Y Y (GL w f)<|Sr (bX Y λa2=>?_);refine Pe Y<|Dh [bx a2 [u1,u3,iv e.g,u5,.bool e.p,u7],fz f f] Y<|Cq<|Sr<|q1 Y (C9 0 C4u Y Y Y)<|qv B1x Y (λw' x=>WM (B0 1 y x Y j) a1 z)<|Pe Y<|CN Y (λq=>?_) λq=>?_
 ·refine Sr<|li Y (MZ (α:=C3z) f C5c Y Y Y λr=>?_);refine Pe Y<|Ct<|Xr<|AG [0,2,1] Y (IJ (α:=C3z) y λb s c=>?_);have a7:=rM c;have t:Gd.rd b [r] (HY e:List C3z):=(show([]:List C3z)=HY e from by exact vD ‹_›)▸c;exact FV rfl rfl λw' x=>⟨[r],b,rfl,H3 (k:=0) x rfl s,t⟩
 ·refine Sk<|Sr<|fl 0 C5h A3Z Y<|fl 0 C4l A3a Y<|fl 0 C5G C6A Y<|AG [1,0] Y<|li Y (cz (α:=List C3z) pC Y Y Y Y y (λw' a3=>QY w' _ a3 u1 e.p8 u3 e.w u5 e.m l n o (by omega) (by omega) z.1 z.2.1) λa8 d u a=>?_);obtain⟨h,rfl⟩:=CL a;have a9:=rM a;refine MS 13 (v':=h) Y Y Y<|Pe Y<|Ct ?_;have v:Gd.rd d [h] (HY e:List C3z):=(show(EK e.p8 e.w e.m:List C3z)=HY e from by exact vC ‹_›)▸a;exact FV rfl rfl λw' x=>⟨[h],d,rfl,H3 (k:=0) x rfl u,v⟩
end Go.Sy.Mat3
end
