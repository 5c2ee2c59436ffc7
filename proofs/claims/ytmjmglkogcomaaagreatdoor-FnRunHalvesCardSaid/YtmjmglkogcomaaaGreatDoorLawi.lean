/-
  Texts joined; facts and events written out.
  Conditions: those that each theorem states.
-/
import Derived.Lib.Join
import Derived.Test.YtmjmglkogcomaaaGreatDoorDrw4
section
namespace Go.Sy
open Go
end Go.Sy
end
/-
  Drawn results become borrowed: a new base world.
  Conditions: none.
-/
section
namespace Go.Sy
open Go Go.RowKit
section
variable {P:Program} {N:Nat} {w0:World} {H:List Chunk} {L:Fm} {Q:Exit->Act->World->Prop} {o:Oper} {d:Nat} {K:Act->World->Prop}
end
end Go.Sy
end
/-
  Lists of several flat elements, parts of owned lists, results that are only readable.
  Conditions: none.
-/
section
namespace Go.Sy
open Go Go.RowKit
section
variable {P:Program} {N:Nat} {w0:World} {H:List Chunk} {L:Fm} {Q:Exit->Act->World->Prop} {o:Oper} {d:Nat} {K:Act->World->Prop}
end
end Go.Sy
end
/-
  Contracts of functions of the program, walked (printed by a program of ours).
  Conditions: those that each theorem states.
-/
section
set_option linter.unusedVariables false
set_option maxRecDepth 20000
namespace Go.Sy.Lawi
open Go Go.RowKit Go.Proofs Go.Sy
open Go.Sy.Bel1 Go.Sy.Ev1 Go.Sy.Fmt1 Go.Sy.Eng1 Go.Sy.Eng2 Go.Sy.Eng3 Go.Sy.Eng4 Go.Sy.Num1 Go.Sy.Num2 Go.Sy.Fal2 Go.Sy.Cho2 Go.Sy.Mat1 Go.Sy.Num3 Go.Sy.Mat2 Go.Sy.Cmp2 Go.Sy.Mat3 Go.Sy.Put1 Go.Sy.Mat5 Go.Sy.Put2 Go.Sy.Ev3 Go.Sy.Par1 Go.Sy.Drw1 Go.Sy.Drw2 Go.Sy.Drw4
theorem B9a{w:World}{a:Value}{code:(List UInt8)}(b:Gd.rd w [a] code):Cy 7 [a] w (Val w (.bool (decide (4096<code.length)))):=by
 have c:=rM b;refine enter 6 Tryz.func7 Y Y Y<|Sr<|Pe Y<|Sr<|p1 Y<|dl lU Y (AE b)<|PE 2 Y<|Ct<|Rb Y Y ?_;show((decide ((4096:Int)<((code.length:Nat):Int))):Bool)=_;simp;omega
theorem C9P{w:World}{b:Value}{code:(List UInt8)}{i:Int}(a:Gd.rd w [b] code)(k:0<=i):Cy 23 [b,(iv i)] w (Val w (iv (atU code i))):=by
 have m:=rM a;refine enter 14 Tryz.func23 Y Y Y<|Sr<|Pe Y<|Cq<|Sr<|P2 Y Y<|dl lU Y (AE a)<|Pe Y<|Cd Y (λd=>?_) λd=>?_
 ·refine Sr<|Pe Y<|Ct<|Xr<|Ri Y Y ?_;show(0:Int)=_;exact C9b (by omega)
 ·refine Sk<|Sr<|P2 Y Y ?_;obtain⟨e,c⟩:=sI code (i.toNat);obtain⟨f,h,g⟩:=AC (n:=1) rfl a c;obtain rfl:f=[.int .u8 (e.toNat:Int)]:=g;have o:=e.toNat_lt;refine q1 Y (AJ (l:=code) (j:=i.toNat) lU Y Y Y (λw' p=>rA p a) (Int.toNat_of_nonneg (by omega)).symm (lS c))<|q1 Y (HI o_5 Y Y h Y)<|q1 Y (B9w LO ⟨_,VL⟩ Y Y)<|Pe Y<|Ct<|Ri Y Y ?_;show((e.toNat:Int):Int)=_;exact C9a rfl c
set_option maxHeartbeats 8000000 in
theorem laws_FnRunHalves(w:World)(d:Value)(code:(List UInt8))(c:Gd.rd w [d] code)(a5:Tb w):Cy 5 [d] w (Val w (.bool (true))):=by
 have bj:=rM c;refine CX 77 Tryz.func5 Y Y Y (GL w w)<|Sr<|Pe Y<|Dh [fz w w] Y<|Cq<|Sr<|p1 Y<|qv b_7 Y (λw' b=>B9a<|B0 0 (E4.refl _) b Y c)<|Dx<|Ci _ Y (λh2=>?_) λh2=>?_
 ·refine Sr<|Pe Y<|Ct<|Xr<|Rb Y Y ?_;rfl
 ·refine Sk<|Sr<|p1 Y<|li Y (C1C (α:=C1P) (β:=Int) B3g Y Y Y Y (E4.refl _) (λw' ba bo=>C9A w' _ ba d code c) λa y4 bk ay az a6 a7 u b0=>?_);have a0:=Gd.rd_sub a7 c;obtain⟨v,x,y,z,rfl,a1,a2,a3,a4⟩:=C6 u;have bb:=rM a1;have bc:=rM a2;have bd:=rM a3;have be:=rM a4;obtain rfl:ay=[(iv y4)]:=b0;refine MS 19 (v':=(.tuple #[(.agg #[v,x,iv a.g,y,.bool a.p,z]),iv y4])) Y Y Y<|P3 Y Y Y (aL C5i Y λb1=>?_);refine li Y<|AZ (vs:=[v,x,iv a.g,y,.bool a.p,z]) (cs':=[v,x,iv a.g,y,.bool a.p,z]) 0 A6c Y Y Y Y Y Y (AB (A2 a1)<|AB (A2 a2)<|AB Y<|AB (A2 a3)<|AB Y<|AB (A2 a4) BR) (by simp) Y ?_;refine Pe Y<|Dh [bx b1 [v,x,iv a.g,y,.bool a.p,z],fz w az] Y<|Cq ?_;have hsz:=Nat.le_trans a6.1 (by decide:40000<=1048576);have b9:=a6.2;refine Cr<|p1 Y<|qv A6j Y (λw' b=>C9P (B0 1 (E4.refl _) b Y a0) (by omega))<|q1 Y (oH Y Y Y Y)<|Pe Y<|Sr<|p1 Y<|qv A6j Y (λw' b=>C9P (B0 1 (E4.refl _) b Y a0) (by omega))<|q1 Y (oH Y Y Y Y)<|Pe Y<|AH [3,5,6] Y<|Cq ?_;have b2:=at5 code 0;have b3:=at5 code 1;refine Cr<|q1 Y (C9 0 C4u Y Y Y)<|p1 Y (qc2 A6n Y (λw' b=>B4K (B0 1 (E4.refl _) b Y u) (by exact hsz)<|Tb.ext a5 b.bel) λbf a8=>?_);refine Dp (λw' b=>H5<|rO (k:=0) b Y) ?_;rintro⟨l,h,r,v31,rfl,a9,aa,ab,ac⟩;refine Dp (λw' b=>show a8=[(nv (runN a (Int.tmod (atU code 0) 5)))] from rO (k:=1) b Y) ?_;rintro rfl;refine MS 31 (v':=(.tuple #[(.agg #[l,h,iv ((B4J a<|Int.tmod (atU code 0) 5).g),r,.bool ((B4J a<|Int.tmod (atU code 0) 5).p),v31]),nv<|runN a<|Int.tmod (atU code 0) 5])) Y Y Y<|AG [0,2,3] Y<|P3 Y Y Y (aL C5i Y λb4=>?_);refine li Y<|AZ (vs:=[l,h,iv ((B4J a<|Int.tmod (atU code 0) 5).g),r,.bool ((B4J a<|Int.tmod (atU code 0) 5).p),v31]) (cs':=[l,h,iv ((B4J a<|Int.tmod (atU code 0) 5).g),r,.bool ((B4J a<|Int.tmod (atU code 0) 5).p),v31]) 0 A6c Y Y Y Y Y Y (AB a9<|AB aa<|AB Y<|AB ab<|AB Y<|AB ac BR) (by simp) Y ?_;refine Pe Y<|Dh [bx b4 [l,h,iv ((B4J a<|Int.tmod (atU code 0) 5).g),r,.bool ((B4J a<|Int.tmod (atU code 0) 5).p),v31],ov [l,h,iv ((B4J a<|Int.tmod (atU code 0) 5).g),r,.bool ((B4J a<|Int.tmod (atU code 0) 5).p),v31] (B4J a (Int.tmod (atU code 0) 5):C1P),_,_] Y<|Cq<|Sr<|q1 Y (C9 2 C4u Y Y Y)<|p1 Y (qc2 A6q Y (λw' b=>B4M (B0 3 (E4.refl _) b Y u) hsz b9) λbg ad=>?_);refine Dp (λw' b=>H5<|rO (k:=0) b Y) ?_;rintro⟨i,m,f,t,rfl,ae,af,ag,ah⟩;refine Dp (λw' b=>show ad=[(nv (runN a (Int.tmod (atU code 0) 5)))] from rO (k:=1) b Y) ?_;rintro rfl;refine MS 37 (v':=(.tuple #[(.agg #[i,m,iv ((B4J a<|Int.tmod (atU code 0) 5).g),f,.bool ((B4J a<|Int.tmod (atU code 0) 5).p),t]),nv<|runN a<|Int.tmod (atU code 0) 5])) Y Y Y<|AG [0,2,3,4,5] Y<|P3 Y Y Y (aL C5i Y λb5=>?_);refine li Y<|AZ (vs:=[i,m,iv ((B4J a<|Int.tmod (atU code 0) 5).g),f,.bool ((B4J a<|Int.tmod (atU code 0) 5).p),t]) (cs':=[i,m,iv ((B4J a<|Int.tmod (atU code 0) 5).g),f,.bool ((B4J a<|Int.tmod (atU code 0) 5).p),t]) 0 A6c Y Y Y Y Y Y (AB ae<|AB af<|AB Y<|AB ag<|AB Y<|AB ah BR) (by simp) Y ?_;refine Pe Y<|Dh [bx b5 [i,m,iv ((B4J a<|Int.tmod (atU code 0) 5).g),f,.bool ((B4J a<|Int.tmod (atU code 0) 5).p),t],ov [i,m,iv ((B4J a<|Int.tmod (atU code 0) 5).g),f,.bool ((B4J a<|Int.tmod (atU code 0) 5).p),t] (B4J a (Int.tmod (atU code 0) 5):C1P),_,_,_,_] Y<|Sr<|PE 3 Y<|AH [3,5,6,7,8,42] Y<|AG [1,2,3,4,5] Y<|Cn Y (λai=>?_) λai=>?_
  ·refine Sr<|Pe Y<|Ct<|Xr<|Rb Y Y ?_;exfalso;omega
  ·refine Sk<|Sr<|q1 Y (C9 1 C4u Y Y Y)<|p1 Y (qc2 A6n Y (λw' b=>B4K (rO (k:=2) b Y) (by exact B4T hsz _)<|Tb.ext a5 b.bel) λbh aj=>?_);refine Dp (λw' b=>H5<|rO (k:=0) b Y) ?_;rintro⟨v51,j,v53,e,rfl,ak,al,am,an⟩;refine Dp (λw' b=>show aj=[(nv (runN (B4J a (Int.tmod (atU code 0) 5)) (Int.tmod (atU code 1) 5)))] from rO (k:=1) b Y) ?_;rintro rfl;refine MS 46 (v':=(.tuple #[(.agg #[v51,j,iv ((B4J (B4J a<|Int.tmod (atU code 0) 5)<|Int.tmod (atU code 1) 5).g),v53,.bool ((B4J (B4J a<|Int.tmod (atU code 0) 5)<|Int.tmod (atU code 1) 5).p),e]),nv<|runN (B4J a<|Int.tmod (atU code 0) 5)<|Int.tmod (atU code 1) 5])) Y Y Y<|AG [0,2,3,4,5,6] Y<|P3 Y Y Y (aL C5i Y λb6=>?_);refine li Y<|AZ (vs:=[v51,j,iv ((B4J (B4J a<|Int.tmod (atU code 0) 5)<|Int.tmod (atU code 1) 5).g),v53,.bool ((B4J (B4J a<|Int.tmod (atU code 0) 5)<|Int.tmod (atU code 1) 5).p),e]) (cs':=[v51,j,iv ((B4J (B4J a<|Int.tmod (atU code 0) 5)<|Int.tmod (atU code 1) 5).g),v53,.bool ((B4J (B4J a<|Int.tmod (atU code 0) 5)<|Int.tmod (atU code 1) 5).p),e]) 0 A6c Y Y Y Y Y Y (AB ak<|AB al<|AB Y<|AB am<|AB Y<|AB an BR) (by simp) Y ?_;refine Pe Y<|Dh [bx b6 [v51,j,iv ((B4J (B4J a<|Int.tmod (atU code 0) 5)<|Int.tmod (atU code 1) 5).g),v53,.bool ((B4J (B4J a<|Int.tmod (atU code 0) 5)<|Int.tmod (atU code 1) 5).p),e],ov [v51,j,iv ((B4J (B4J a<|Int.tmod (atU code 0) 5)<|Int.tmod (atU code 1) 5).g),v53,.bool ((B4J (B4J a<|Int.tmod (atU code 0) 5)<|Int.tmod (atU code 1) 5).p),e] (B4J (B4J a<|Int.tmod (atU code 0) 5) (Int.tmod (atU code 1) 5):C1P),_,_,_,_,_] Y<|Sr<|q1 Y (C9 5 C4u Y Y Y)<|P2 Y Y<|q1 Y (DW Y Y Y Y (by omega)) (qc2 A6n Y (λw' b=>B4K (B0 6 (E4.refl _) b Y u) (by exact hsz)<|Tb.ext a5 b.bel) λbi ao=>?_);refine Dp (λw' b=>H5<|rO (k:=0) b Y) ?_;rintro⟨s,q,n,o,rfl,ap,aq,ar,au⟩;refine Dp (λw' b=>show ao=[(nv (runN a ((Int.tmod (atU code 0) 5)+(Int.tmod (atU code 1) 5))))] from rO (k:=1) b Y) ?_;rintro rfl;refine MS 54 (v':=(.tuple #[(.agg #[s,q,iv ((B4J a ((Int.tmod (atU code 0) 5)+(Int.tmod (atU code 1) 5))).g),n,.bool ((B4J a ((Int.tmod (atU code 0) 5)+(Int.tmod (atU code 1) 5))).p),o]),nv<|runN a ((Int.tmod (atU code 0) 5)+(Int.tmod (atU code 1) 5))])) Y Y Y<|AG [0,2,3,4,5,6,7,8] Y<|P3 Y Y Y (aL C5i Y λb7=>?_);refine li Y<|AZ (vs:=[s,q,iv ((B4J a ((Int.tmod (atU code 0) 5)+(Int.tmod (atU code 1) 5))).g),n,.bool ((B4J a ((Int.tmod (atU code 0) 5)+(Int.tmod (atU code 1) 5))).p),o]) (cs':=[s,q,iv ((B4J a ((Int.tmod (atU code 0) 5)+(Int.tmod (atU code 1) 5))).g),n,.bool ((B4J a ((Int.tmod (atU code 0) 5)+(Int.tmod (atU code 1) 5))).p),o]) 0 A6c Y Y Y Y Y Y (AB ap<|AB aq<|AB Y<|AB ar<|AB Y<|AB au BR) (by simp) Y ?_;refine Pe Y<|AH [5,6,8,11,12,13,14] Y<|AG [0,1,2,3,4,6,8] Y<|Dh [bx b7 [s,q,iv ((B4J a ((Int.tmod (atU code 0) 5)+(Int.tmod (atU code 1) 5))).g),n,.bool ((B4J a ((Int.tmod (atU code 0) 5)+(Int.tmod (atU code 1) 5))).p),o],ov [s,q,iv ((B4J a ((Int.tmod (atU code 0) 5)+(Int.tmod (atU code 1) 5))).g),n,.bool ((B4J a ((Int.tmod (atU code 0) 5)+(Int.tmod (atU code 1) 5))).p),o] (B4J a ((Int.tmod (atU code 0) 5)+(Int.tmod (atU code 1) 5)):C1P),_,_,_,_,_] Y<|Cq ?_;obtain⟨b8,bl,bm,bn⟩:=C9K a b2.1 b3.1;refine Cr<|P3 Y Y Y<|p1 Y<|EY 60 Y Y (λav=>?_) λav=>?_
   ·refine P3 Y Y Y<|P2 Y Y<|EY 65 Y Y (λaw=>?_) λaw=>?_
    ·refine P2 Y Y<|q1 Y (DW Y Y Y Y (by omega))<|P3 Y Y Y<|p1 Y<|oV 72 Y Y (λax=>?_) λax=>?_
     ·refine q1 Y (C9 2 C4u Y Y Y)<|q1 Y (C9 0 C4u Y Y Y)<|qv wG Y (λw' b=>C2M (rO (k:=3) b Y)<|rO (k:=1) b Y)<|PE 2 Y<|Ct<|Rb Y Y ?_;show((decide ((B4J (B4J a (Int.tmod (atU code 0) 5)) (Int.tmod (atU code 1) 5))=(B4J a ((Int.tmod (atU code 0) 5)+(Int.tmod (atU code 1) 5))))):Bool)=_;exact decide_eq_true b8
     ·refine PE 5 Y<|Ct<|Rb Y Y ?_;exfalso;omega
    ·refine PE 12 Y<|Ct<|Rb Y Y ?_;exfalso;omega
   ·refine PE 17 Y<|Ct<|Rb Y Y ?_;exfalso;omega
end Go.Sy.Lawi
end
