/-
  Texts joined; facts and events written out.
  Conditions: those that each theorem states.
-/
import Derived.Lib.Join
import Derived.Test.YtmjmglkogcomaaaGreatDoorDrw4
section
namespace Go.Sy
open Go
end Go.Sy
end
/-
  Drawn results become borrowed: a new base world.
  Conditions: none.
-/
section
namespace Go.Sy
open Go Go.RowKit
section
variable {P:Program} {N:Nat} {w0:World} {H:List Chunk} {L:Fm} {Q:Exit->Act->World->Prop} {o:Oper} {d:Nat} {K:Act->World->Prop}
end
end Go.Sy
end
/-
  Lists of several flat elements, parts of owned lists, results that are only readable.
  Conditions: none.
-/
section
namespace Go.Sy
open Go Go.RowKit
section
variable {P:Program} {N:Nat} {w0:World} {H:List Chunk} {L:Fm} {Q:Exit->Act->World->Prop} {o:Oper} {d:Nat} {K:Act->World->Prop}
end
end Go.Sy
end
/-
  Contracts of functions of the program, walked (printed by a program of ours).
  Conditions: those that each theorem states.
-/
section
set_option linter.unusedVariables false
set_option maxRecDepth 20000
namespace Go.Sy.Lawi
open Go Go.RowKit Go.Proofs Go.Sy
open Go.Sy.Bel1 Go.Sy.Ev1 Go.Sy.Fmt1 Go.Sy.Eng1 Go.Sy.Eng2 Go.Sy.Eng3 Go.Sy.Eng4 Go.Sy.Num1 Go.Sy.Num2 Go.Sy.Fal2 Go.Sy.Cho2 Go.Sy.Mat1 Go.Sy.Num3 Go.Sy.Mat2 Go.Sy.Cmp2 Go.Sy.Mat3 Go.Sy.Put1 Go.Sy.Mat5 Go.Sy.Put2 Go.Sy.Ev3 Go.Sy.Par1 Go.Sy.Drw1 Go.Sy.Drw2 Go.Sy.Drw4
theorem B9a{w:World}{a:Value}{code:(List UInt8)}(b:Gd.rd w [a] code):Cy 7 [a] w (Val w (.bool (decide (4096<code.length)))):=by
 have c:=rM b;refine enter 6 Tryz.func7 Y Y Y<|Sr<|Pe Y<|Sr<|p1 Y<|dl lU Y (AE b)<|PE 2 Y<|Ct<|Rb Y Y ?_;show((decide ((4096:Int)<((code.length:Nat):Int))):Bool)=_;simp;omega
theorem C3u{w:World}{o:Value}{a:(List C1G)}{p:Value}{b:(List C1G)}(d:Gd.rd w [o] a)(f:Gd.rd w [p] b):Cy 14 [o,p] w (Val w (.bool (decide (a=b)))):=by
 have a5:=rM d;have a6:=rM f;refine enter 27 Tryz.func14 Y Y Y<|Sr<|Pe Y<|Cq<|Sr<|p1 Y<|dl C4y Y (AE d)<|p1 Y<|dl C4y Y (AE f)<|Pe Y<|Cn Y (λz=>?_) λz=>?_
 ·refine Sr<|Pe Y<|Ct<|Xr<|Rb Y Y ?_;simp;intro e;subst e;simp_all
 ·refine Sk<|Cq<|Sr<|Pe Y<|Cb<|Cl (λm_ y w'=>∃(k:Nat),(k<=a.length)/\(∀i,i<k->a[i]?=b[i]?)/\m_=a.length-k/\Fits y 27 [(0,o),(1,p),(5,nv k)]/\St w ([]) w') ?_ ?_
  ·refine λy w' q c=>⟨_,0,?_,?_,Y,q.wk Y,c⟩
   ·omega
   ·intro i hi;omega
  ·rintro m_ y w' ⟨k,hk,hi,rfl,q,c⟩;refine D.use ?_ q c;clear q c y w';refine Cq<|Sr<|P2 Y Y<|dl C4y Y (AE d)<|Pe Y<|Cd Y (λa0=>?_) λa0=>?_
   ·refine Sk<|Cq<|Cb<|Cq<|A0 mixed [8,9] (by kernel_rfl)<|tK 8 [0,1] Y ?_;obtain⟨x5,r⟩:=sI a k;obtain⟨a7,a1,s⟩:=AC (n:=2) rfl d r;obtain⟨a8,rfl,t⟩:=AS s;have a2:=rM t;refine Tk 2 Y Y (AJ (l:=a) (j:=k) C4y Y Y Y (λw' c=>rA c d) Y<|lS r)<|Tk 3 Y Y (EX C4N Y Y a1)<|tK 4 [4,5] Y ?_;obtain⟨a9,g⟩:=sI b k;obtain⟨a3,u,m⟩:=AC (n:=2) rfl f g;obtain⟨aa,rfl,v⟩:=AS m;have a4:=rM v;refine Tk 6 Y Y (AJ (l:=b) (j:=k) C4y Y Y Y (λw' c=>rA c f) Y<|lS g)<|Tk 7 Y Y (EX C4N Y Y u)<|ty 8 Y Y<|cv A6z Y Y Y Y (λw' c=>cJ (rA c s)<|rA c m) ?_;refine tZ Y<|tW 9 Y Y Y<|tE<|Xt<|CN Y (λx=>?_) λx=>?_
    ·refine Sr<|Pe Y<|Ct<|Xq<|Xr<|Xr<|Xq<|Xr<|Rb Y Y ?_;simp;intro e;subst e;simp_all
    ·refine Ck<|Xb<|Xt<|Cr<|p1 Y<|ad (k+1) Y<|Pe Y λy w' q c=>⟨_,?_,k+1,?_,?_,Y,q.wk Y,c⟩
     ·omega
     ·omega
     ·refine DF hi ‹_› ‹_› ?_;simp_all
   ·refine Cx<|Xx<|Xx<|Xe<|Xt<|Sr<|Pe Y<|Ct<|Rb Y Y ?_;simp;exact C7 (by omega) (λi h=>hi i (by omega))
set_option maxHeartbeats 8000000 in
theorem laws_FnHandKeeps(w:World)(d:Value)(code:(List UInt8))(e:Gd.rd w [d] code)(x:Tb w):Cy 3 [d] w (Val w (.bool (true))):=by
 have bl:=rM e;refine CX 81 Tryz.func3 Y Y Y (GL w w)<|Sr<|Pe Y<|Dh [fz w w] Y<|Cq<|Sr<|p1 Y<|qv b_7 Y (λw' a=>B9a<|B0 0 (E4.refl _) a Y e)<|Dx<|Ci _ Y (λh2=>?_) λh2=>?_
 ·refine Sr<|Pe Y<|Ct<|Xr<|Rb Y Y ?_;rfl
 ·refine Sk<|Sr<|p1 Y<|li Y (C1C (α:=C1P) (β:=C1G) b_8 Y Y Y Y (E4.refl _) (λw' b9 bp=>C7C w' _ b9 d code e) λc b bm bn b1 i bb ab y=>?_);have bc:=i.1;have bd:=i.2;obtain⟨z,a0,a1,a2,rfl,a5,j,a6,a7⟩:=C6 ab;have be:=rM a5;have bf:=rM j;have bg:=rM a6;have bh:=rM a7;obtain⟨a3,rfl,a8⟩:=AS y;have bi:=rM a8;refine MS 13 (v':=(.tuple #[(.agg #[z,a0,iv c.g,a1,.bool c.p,a2]),(.agg #[.string b.p5,a3])])) Y Y Y<|P3 Y Y Y (aL C5i Y λb2=>?_);refine aL C5d Y λb3=>?_
  refine li Y<|AZ (vs:=[z,a0,iv c.g,a1,.bool c.p,a2]) (cs':=[z,a0,iv c.g,a1,.bool c.p,a2]) 1 A6c Y Y Y Y Y Y (AB (A2 a5)<|AB (A2 j)<|AB Y<|AB (A2 a6)<|AB Y<|AB (A2 a7) BR) (by simp) Y ?_;refine li Y<|AZ (vs:=[.string b.p5,a3]) (cs':=[.string b.p5,a3]) 0 A6i Y Y Y Y Y Y (AB Y<|AB (A2 a8) BR) (by simp) Y ?_;refine Dx<|Dh [bx b3 [.string b.p5,a3],bx b2 [z,a0,iv c.g,a1,.bool c.p,a2],fz w b1] Y<|Cq ?_;have hsz:=Nat.le_trans i.1.1 (by decide:40000<=1048576);have br:=i.1.2;have b0:=Nat.le_trans i.2 (by decide:40000<=1048576);refine Cr<|q1 Y (C9 1 C4u Y Y Y)<|q1 Y (C9 0 C4N Y Y Y) (qc2 b_9 Y (λw' a=>B1H (B0 2 (E4.refl _) a Y ab) (B0 2 (E4.refl _) a Y y) hsz b0<|Tb.ext x a.bel) λbj ac=>?_);refine Dp (λw' a=>H5<|rO (k:=0) a Y) ?_;rintro⟨t,r,o,u,rfl,ad,ae,af,ag⟩;refine Dp (λw' a=>show ac=[(.bool (A8Z c b))] from rO (k:=1) a Y) ?_;rintro rfl;refine MS 19 (v':=(.tuple #[(.agg #[t,r,iv ((A8D c b).g),o,.bool ((A8D c b).p),u]),.bool<|A8Z c b])) Y Y Y<|AG [0,2,3,4] Y<|P3 Y Y Y (aL C5i Y λb4=>?_);refine li Y<|AZ (vs:=[t,r,iv ((A8D c b).g),o,.bool ((A8D c b).p),u]) (cs':=[t,r,iv ((A8D c b).g),o,.bool ((A8D c b).p),u]) 0 A6c Y Y Y Y Y Y (AB ad<|AB ae<|AB Y<|AB af<|AB Y<|AB ag BR) (by simp) Y ?_;refine Pe Y<|AH [3,4,5,6] Y<|Dh [bx b4 [t,r,iv ((A8D c b).g),o,.bool ((A8D c b).p),u],ov [t,r,iv ((A8D c b).g),o,.bool ((A8D c b).p),u] (A8D c b:C1P),_,_,_] Y<|Cq<|Sr<|PE 2 Y<|CN Y (λah=>?_) λah=>?_
  ·refine Sr<|q1 Y (C9 0 C4u Y Y Y)<|q1 Y (C9 3 C4u Y Y Y)<|qv wG Y (λw' a=>C2M (rO (k:=1) a Y)<|B0 4 (E4.refl _) a Y ab)<|Pe Y<|Ct<|Xr<|Rb Y Y ?_;show((decide ((A8D c b)=c)):Bool)=_;exact decide_eq_true (A8v ‹_›).1.symm
  ·refine Sk<|Cq<|Cq ?_;have a4:A8Z c b=true:=by assumption
   have bs:=A8H (B0e a4).1;have ba:=C3V (f:=b) (B0e a4).1;have bo:=C7T a4;have ar:=Nat.le_trans (B0H ba) (by decide:30000<=1048576);refine A0 mixed [1,2,3,11,12,13,19,20] (by kernel_rfl)<|Tk 0 Y Y (C9 0 C4u Y Y Y)<|ty 1 Y Y<|cv B4C Y Y Y Y (λw' a=>WL (rO (k:=1) a Y) (by exact ar)<|Tb.ext x a.bel) ?_;refine tZ Y<|tW 2 Y Y Y<|tW 3 Y Y Y<|JQ 30 Y Y (λai=>?_) λai=>?_
   ·refine tK 9 [4,5,6,7,8,9,10,11] Y<|tW 12 Y Y Y<|tW 13 Y Y Y<|tK 1 [14,15,16,17,18,19] Y<|tW 20 Y Y Y<|tE<|Xt<|AH [3,4,5,47] Y<|GF Y<|Sr<|p1 Y ?_;refine Dx<|Ct<|Xr<|Rb Y Y ?_;exfalso;simp_all
   ·refine Tk 4 Y Y (Db C4l Y Y (q:=1) Y)<|Tk 5 Y Y (lb 0 A3a Y Y Y Y)<|Tk 6 Y Y (C9 2 C4N Y Y Y)<|Tk 8 Y Y (Db C5W Y Y (q:=2) Y)<|Tk 9 Y Y (lb 3 CJ Y Y Y Y)<|Tk 10 Y Y (DW Y Y Y Y (by omega))<|ty 7 Y Y<|cv A7M Y Y Y Y (λw' a=>dT (by obtain⟨aw,az,ay,au,e_,aa,h,a9,n⟩:=C6 (rO (k:=1) a rfl);cases e_;exact h)<|B0 4 (E4.refl _) a rfl y) ?_;refine tS (λ_ a=>a)<|tW 11 Y Y Y<|tW 12 Y Y Y<|tW 13 Y Y Y<|gxn 40 Y Y (λaj=>?_) λaj=>?_
    ·refine tK 1 [14,15,16,17,18,19] Y<|tW 20 Y Y Y<|tE<|Xt<|AH [3,4,5,47] Y<|GF Y<|Sr<|Pe Y<|Ct<|Xr<|Rb Y Y ?_;exfalso;simp_all
    ·refine Tk 14 Y Y (Db C5W Y Y (q:=2) Y)<|Tk 15 Y Y (lb 0 CJ Y Y Y Y)<|Tk 16 Y Y (Db C5W Y Y (q:=2) Y)<|Tk 17 Y Y (lb 3 CJ Y Y Y Y)<|Tk 18 Y Y (DW Y Y Y Y (by omega))<|tW 19 Y Y Y<|tW 20 Y Y Y<|tE<|Xt<|AH [3,4,5,47] Y<|Cn Y (λak=>?_) λak=>?_
     ·refine Sr<|Pe Y<|Ct<|Xr<|Rb Y Y ?_;exfalso;simp_all
     ·refine Sk<|Sr<|q1 Y (C9 0 C4u Y Y Y)<|q1 Y (C9 2 C4N Y Y Y) (qc2 A7N Y (λw' a=>B0o (rO (k:=1) a Y) (B0 4 (E4.refl _) a Y y) ar b0<|Tb.ext x a.bel) λbk al=>?_);refine Dp (λw' a=>H5<|rO (k:=0) a Y) ?_;rintro⟨v,m,s,l,rfl,am,an,ao,ap⟩;refine Dp (λw' a=>show al=[(.bool (A8g (A8D c b) b))] from rO (k:=1) a Y) ?_;rintro rfl;refine MS 51 (v':=(.tuple #[(.agg #[v,m,iv ((A8E (A8D c b) b).g),s,.bool ((A8E (A8D c b) b).p),l]),.bool<|A8g (A8D c b) b])) Y Y Y<|AG [0,2,3,4,5,6] Y<|P3 Y Y Y (aL C5i Y λb5=>?_);refine li Y<|AZ (vs:=[v,m,iv ((A8E (A8D c b) b).g),s,.bool ((A8E (A8D c b) b).p),l]) (cs':=[v,m,iv ((A8E (A8D c b) b).g),s,.bool ((A8E (A8D c b) b).p),l]) 0 A6c Y Y Y Y Y Y (AB am<|AB an<|AB Y<|AB ao<|AB Y<|AB ap BR) (by simp) Y ?_;refine Pe Y<|Dh [bx b5 [v,m,iv ((A8E (A8D c b) b).g),s,.bool ((A8E (A8D c b) b).p),l],ov [v,m,iv ((A8E (A8D c b) b).g),s,.bool ((A8E (A8D c b) b).p),l] (A8E (A8D c b) b:C1P),_,_,_,_,_] Y<|Cq<|Sr<|fl 2 C4O C5U Y<|q1 Y (A8k C4v Y Y λw' a=>(by obtain⟨aw,az,ay,au,e_,aa,h,a9,n⟩:=C6 (rO (k:=3) a rfl);cases e_;exact n))<|Pe rfl<|Ce rfl (λaq=>?_) λaq=>?_
      ·refine Sr<|PE 3 Y<|Ct<|Xr<|Rb Y Y ?_;show((!(A8g (A8D c b) b)):Bool)=_;rw[C4P (by omega)];rfl
      ·refine Sk<|Cq ?_;have av:=C7j a4 (by omega);have ax:=Nat.le_trans (B0H av.2.2.2) (by decide:30000<=1048576);refine A0 mixed [3,4,5,11,12,13,14,19,20,21] (by kernel_rfl)<|tK 20 [0,1] Y<|gs 61 Y Y (λb6=>?_) λb6=>?_
       ·refine Tk 2 Y Y (C9 0 C4u Y Y Y)<|ty 3 Y Y<|cv B4C Y Y Y Y (λw' a=>WL (rO (k:=1) a Y) (by exact ax)<|Tb.ext x a.bel) ?_;refine tZ Y<|tW 4 Y Y Y<|tW 5 Y Y Y<|gs 65 Y Y (λb7=>?_) λb7=>?_
        ·refine Tk 6 Y Y (Db C4l Y Y (q:=1) Y)<|Tk 7 Y Y (lb 0 A3a Y Y Y Y)<|Tk 9 Y Y (Db C4l Y Y (q:=1) Y)<|Tk 10 Y Y (lb 5 A3a Y Y Y Y)<|ty 8 Y Y (YJ B4V Y Y Y Y (λw' a=>QK (by obtain⟨aw,az,ay,au,e_,aa,h,a9,n⟩:=C6 (rO (k:=1) a rfl);cases e_;exact h) (by unfold DI at ax;omega)) λbt=>?_);refine tS (λ_ a=>a.pk [1,2,3,4,5,6,7] Y Y)<|ty 11 Y Y (YJ B4U Y Y Y Y (λw' a=>QL (B0 7 (E4.refl _) a Y j) (by unfold DI at hsz;omega)) λbq=>?_);refine tZ Y<|ty 12 Y Y<|cv B3h Y Y Y Y (λw' a=>C3u (rO (k:=1) a Y)<|rO (k:=0) a Y) ?_;refine tZ Y<|tW 13 Y Y Y<|tW 14 Y Y Y<|gs 74 Y Y (λb8=>?_) λb8=>?_
         ·refine Tj 15 Y Y (λ_ a=>a.pk [2,3,4,5,6,7,8] Y Y) (Db C5W Y Y (q:=2) Y)<|Tj 16 Y Y (λ_ a=>a.pk [2,3,4,5,6,7,8] Y Y) (lb 0 CJ Y Y Y Y)<|Tj 17 Y Y (λ_ a=>a.pk [2,3,4,5,6,7,8] Y Y) (Db C5W Y Y (q:=2) Y)<|Tj 18 Y Y (λ_ a=>a.pk [2,3,4,5,6,7,8] Y Y) (lb 2 CJ Y Y Y Y)<|tW 19 Y Y Y<|tW 20 Y Y Y<|tW 21 Y Y Y<|tE<|Xt<|Ct<|Rb Y Y ?_;show(((((A8E (A8D c b) b).g):Int)==((A8D c b).g)):Bool)=_;exact decide_eq_true av.2.2.1
         ·refine tn 15 Y (by kernel_rfl) (by kernel_rfl) (by kernel_rfl) Y Y Y (λ_ a=>a.pk [2,3,4,5,6,7,8] Y Y)<|tn 16 Y (by kernel_rfl) (by kernel_rfl) (by kernel_rfl) Y Y Y (λ_ a=>a.pk [2,3,4,5,6,7,8] Y Y)<|tn 17 Y (by kernel_rfl) (by kernel_rfl) (by kernel_rfl) Y Y Y (λ_ a=>a.pk [2,3,4,5,6,7,8] Y Y)<|tn 18 Y (by kernel_rfl) (by kernel_rfl) (by kernel_rfl) Y Y Y (λ_ a=>a.pk [2,3,4,5,6,7,8] Y Y)<|tn 19 Y (by kernel_rfl) (by kernel_rfl) (by kernel_rfl) Y Y Y (λ_ a=>a.pk [2,3,4,5,6,7,8] Y Y)<|tW 20 Y Y Y<|tW 21 Y Y Y<|tE<|Xt<|Ct<|Rb Y Y ?_;exfalso;simp_all
        ·refine tK 9 [6,7,8,9,10,11,12] Y<|tW 13 Y Y Y<|tW 14 Y Y Y<|tK 2 [15,16,17,18,19] Y<|tW 20 Y Y Y<|tW 21 Y Y Y<|tE<|Xt<|Ct<|Rb Y Y ?_;exfalso;simp_all
       ·refine tK 18 [2,3] Y<|tW 4 Y Y Y<|tW 5 Y Y Y<|tK 9 [6,7,8,9,10,11,12] Y<|tW 13 Y Y Y<|tW 14 Y Y Y<|tK 2 [15,16,17,18,19] Y<|tW 20 Y Y Y<|tW 21 Y Y Y<|tE<|Xt<|Ct<|Rb Y Y ?_;exfalso;simp_all
end Go.Sy.Lawi
end
