/-
  Contracts of functions of the program, walked (printed by a program of ours).
  Conditions: those that each theorem states.
-/
import Derived.Test.YtmjmglkogcomaaaGreatDoorPdqs
section
set_option linter.unusedVariables false
set_option maxRecDepth 20000
namespace Go.Sy.Fal1
open Go Go.RowKit Go.Proofs Go.Sy
theorem IntSlice_Len{w:World}{a:Value}{x:(List Int)}(b:Gd.rd w [a] x):Cy 347 [a] w (Val w (iv ((x.length:Int)))):=by
 have c:=rM b;refine enter 5 Tryz.func347 Y Y Y<|Sr<|Pe Y<|Sr<|p1 Y<|dl C5e Y (AE b)<|Pe Y<|Ct<|Ri Y Y ?_;show(((x.length:Nat):Int):Int)=_;rfl
theorem IntSlice_Less{w:World}{d:Value}{x:(List Int)}{i:Int}{j:Int}(a:Gd.rd w [d] x)(s:0<=i/\i<x.length)(t:0<=j/\j<x.length):Cy 348 [d,(iv i),(iv j)] w (Val w (.bool (decide (A x i.toNat<A x j.toNat)))):=by
 have r:=rM a;refine enter 16 Tryz.func348 Y Y Y<|Sr<|Pe Y<|Cq<|A0 mixed [] (by kernel_rfl)<|tK 8 [0,1] Y ?_;obtain⟨p,b⟩:=sI x (i.toNat);obtain⟨e,o,f⟩:=AC (n:=1) rfl a b;obtain rfl:e=[.int .i64 p]:=f;refine Tk 2 Y Y (AJ (l:=x) (j:=i.toNat) C5e Y Y Y (λw' m=>rA m a) (Int.toNat_of_nonneg (by omega)).symm (lS b))<|Tk 3 Y Y (HI CJ Y Y o Y)<|tK 4 [4,5] Y ?_;obtain⟨q,c⟩:=sI x (j.toNat);obtain⟨g,h,k⟩:=AC (n:=1) rfl a c;obtain rfl:g=[.int .i64 q]:=k;refine Tk 6 Y Y (AJ (l:=x) (j:=j.toNat) C5e Y Y Y (λw' m=>rA m a) (Int.toNat_of_nonneg (by omega)).symm (lS c))<|Tk 7 Y Y (HI CJ Y Y h Y)<|tK 0 [8,9] Y<|tE<|Xt<|Ct<|Rb Y Y ?_;show((decide ((p:Int)<q)):Bool)=_;rw[KI b,KI c]
theorem IntSlice_Swap(w0:World)(s:List Chunk)(w:World)(m:Value)(x:(List Int))(i:Int)(j:Int)(y:0<=i/\i<x.length)(hj:0<=j/\j<x.length)(n:St w0 (ov [m] (x:(List Int))::s) w):Cy 350 [m,(iv i),(iv j)] w (λe w'=>e= .returned (.tuple #[])/\St w0 (ov [m] (swp x i.toNat j.toNat:(List Int))::s) w'):=by
 have t:=rM (rO (k:=0) n rfl);refine CX 20 Tryz.func350 Y Y Y n<|vI (s) mixed [15] (by kernel_rfl)<|Tj 0 Y Y (λ_ a=>a.fd [] 1 Y) (rp Y)<|Tj 1 Y Y (λ_ a=>a.fd [] 1 Y) (rp Y)<|Tj 2 Y Y (λ_ a=>a.fd [] 1 Y) (rp Y)<|Tj 3 Y Y (λ_ a=>a.fd [] 1 Y) (rp Y)<|Tj 4 Y Y (λ_ a=>a.fd [] 1 Y) (rp Y)<|Tj 5 Y Y (λ_ a=>a.fd [] 1 Y) (rp Y) ?_;obtain⟨d,c⟩:=sI x (j.toNat) (by omega);refine Tj 8 Y Y (λ_ a=>a.fd [] 1 Y) (rp Y)<|Tj 9 Y Y (λ_ a=>a.fd [] 1 Y) (rp Y) ?_;obtain⟨f,b⟩:=sI x (i.toNat) (by omega);refine tyN [6,10] Y (by kernel_rfl) ⟨⟨_,Y,Y,?_⟩,⟨_,Y,Y,?_⟩,trivial⟩
 ·refine sv Y Y (AJ (l:=x) (j:=j.toNat) C5e Y Y Y (λw' a=>rO (k:=0) a Y) (Int.toNat_of_nonneg (by omega)).symm (lS c))<|tS (λ_ a=>a.fd [] 1 Y)<|tyN [7,10] Y (by kernel_rfl) ⟨⟨_,Y,Y,?_⟩,⟨_,Y,Y,?_⟩,trivial⟩
  ·refine sv Y Y (lo (α:=Int) 0 CJ Y Y Y c)<|tS (λ_ a=>a.fd [] 1 Y)<|ty 10 Y Y<|sv Y Y (AJ (l:=x) (j:=i.toNat) C5e Y Y Y (λw' a=>rO (k:=0) a Y) (Int.toNat_of_nonneg (by omega)).symm (lS b)) ?_;refine tS (λ_ a=>a.fd [] 1 Y)<|ty 11 Y Y<|sv Y Y (lo (α:=Int) 0 CJ Y Y Y b) ?_;refine tS (λ_ a=>a.fd [] 1 Y)<|ty 12 Y Y<|sv Y Y (AJ (l:=x) (j:=i.toNat) C5e Y Y Y (λw' a=>rO (k:=0) a Y) (Int.toNat_of_nonneg (by omega)).symm (lS b)) ?_;refine tS (λ_ a=>a.fd [] 1 Y)<|ty 13 Y Y<|so (α:=Int) (z:=d) 0 PC Y Y Y Y Y (lS b) ?_;refine tS (λ_ a=>a.fd [] 1 Y) ?_;obtain⟨x2,o⟩:=sI (x.set (i.toNat) d) (j.toNat) (by simp;omega);refine ty 14 Y Y<|sv Y Y (AJ (l:=x.set (i.toNat) d) (j:=j.toNat) C5e Y Y Y (λw' a=>rO (k:=0) a Y) (Int.toNat_of_nonneg (by omega)).symm (lS o)) ?_;refine tS (λ_ a=>a.fd [] 1 Y)<|ty 15 Y Y<|so (α:=Int) (z:=f) 0 PC Y Y Y Y Y (lS o) ?_;refine tZ Y<|tE<|A3 0 Y (show((x.set (i.toNat) d).set (j.toNat) f:(List Int))=swp x i.toNat j.toNat from by unfold swp;rw[KI b,KI c]) ?_;exact CY rfl λw' a=>⟨rfl,a⟩
  ·refine sv Y Y (AJ (l:=x) (j:=i.toNat) C5e Y Y Y (λw' a=>rO (k:=0) a Y) (Int.toNat_of_nonneg (by omega)).symm (lS b))<|tS (λ_ a=>a.fd [] 1 Y)<|tyN [7,11] Y (by kernel_rfl) ⟨⟨_,Y,Y,?_⟩,⟨_,Y,Y,?_⟩,trivial⟩
   ·refine sv Y Y (lo (α:=Int) 0 CJ Y Y Y c)<|tS (λ_ a=>a.fd [] 1 Y)<|ty 11 Y Y<|sv Y Y (lo (α:=Int) 0 CJ Y Y Y b) ?_;refine tS (λ_ a=>a.fd [] 1 Y)<|ty 12 Y Y<|sv Y Y (AJ (l:=x) (j:=i.toNat) C5e Y Y Y (λw' a=>rO (k:=0) a Y) (Int.toNat_of_nonneg (by omega)).symm (lS b)) ?_;refine tS (λ_ a=>a.fd [] 1 Y)<|ty 13 Y Y<|so (α:=Int) (z:=d) 0 PC Y Y Y Y Y (lS b) ?_;refine tS (λ_ a=>a.fd [] 1 Y) ?_;obtain⟨x4,p⟩:=sI (x.set (i.toNat) d) (j.toNat) (by simp;omega);refine ty 14 Y Y<|sv Y Y (AJ (l:=x.set (i.toNat) d) (j:=j.toNat) C5e Y Y Y (λw' a=>rO (k:=0) a Y) (Int.toNat_of_nonneg (by omega)).symm (lS p)) ?_;refine tS (λ_ a=>a.fd [] 1 Y)<|ty 15 Y Y<|so (α:=Int) (z:=f) 0 PC Y Y Y Y Y (lS p) ?_;refine tZ Y<|tE<|A3 0 Y (show((x.set (i.toNat) d).set (j.toNat) f:(List Int))=swp x i.toNat j.toNat from by unfold swp;rw[KI b,KI c]) ?_;exact CY rfl λw' a=>⟨rfl,a⟩
   ·refine sv Y Y (lo (α:=Int) 0 CJ Y Y Y b)<|tS (λ_ a=>a.fd [] 1 Y)<|ty 7 Y Y<|sv Y Y (lo (α:=Int) 0 CJ Y Y Y c) ?_;refine tS (λ_ a=>a.fd [] 1 Y)<|ty 12 Y Y<|sv Y Y (AJ (l:=x) (j:=i.toNat) C5e Y Y Y (λw' a=>rO (k:=0) a Y) (Int.toNat_of_nonneg (by omega)).symm (lS b)) ?_;refine tS (λ_ a=>a.fd [] 1 Y)<|ty 13 Y Y<|so (α:=Int) (z:=d) 0 PC Y Y Y Y Y (lS b) ?_;refine tS (λ_ a=>a.fd [] 1 Y) ?_;obtain⟨x6,q⟩:=sI (x.set (i.toNat) d) (j.toNat) (by simp;omega);refine ty 14 Y Y<|sv Y Y (AJ (l:=x.set (i.toNat) d) (j:=j.toNat) C5e Y Y Y (λw' a=>rO (k:=0) a Y) (Int.toNat_of_nonneg (by omega)).symm (lS q)) ?_;refine tS (λ_ a=>a.fd [] 1 Y)<|ty 15 Y Y<|so (α:=Int) (z:=f) 0 PC Y Y Y Y Y (lS q) ?_;refine tZ Y<|tE<|A3 0 Y (show((x.set (i.toNat) d).set (j.toNat) f:(List Int))=swp x i.toNat j.toNat from by unfold swp;rw[KI b,KI c]) ?_;exact CY rfl λw' a=>⟨rfl,a⟩
 ·refine sv Y Y (AJ (l:=x) (j:=i.toNat) C5e Y Y Y (λw' a=>rO (k:=0) a Y) (Int.toNat_of_nonneg (by omega)).symm (lS b))<|tS (λ_ a=>a.fd [] 1 Y)<|tyN [6,11] Y (by kernel_rfl) ⟨⟨_,Y,Y,?_⟩,⟨_,Y,Y,?_⟩,trivial⟩
  ·refine sv Y Y (AJ (l:=x) (j:=j.toNat) C5e Y Y Y (λw' a=>rO (k:=0) a Y) (Int.toNat_of_nonneg (by omega)).symm (lS c))<|tS (λ_ a=>a.fd [] 1 Y)<|tyN [7,11] Y (by kernel_rfl) ⟨⟨_,Y,Y,?_⟩,⟨_,Y,Y,?_⟩,trivial⟩
   ·refine sv Y Y (lo (α:=Int) 0 CJ Y Y Y c)<|tS (λ_ a=>a.fd [] 1 Y)<|ty 11 Y Y<|sv Y Y (lo (α:=Int) 0 CJ Y Y Y b) ?_;refine tS (λ_ a=>a.fd [] 1 Y)<|ty 12 Y Y<|sv Y Y (AJ (l:=x) (j:=i.toNat) C5e Y Y Y (λw' a=>rO (k:=0) a Y) (Int.toNat_of_nonneg (by omega)).symm (lS b)) ?_;refine tS (λ_ a=>a.fd [] 1 Y)<|ty 13 Y Y<|so (α:=Int) (z:=d) 0 PC Y Y Y Y Y (lS b) ?_;refine tS (λ_ a=>a.fd [] 1 Y) ?_;obtain⟨x8,r⟩:=sI (x.set (i.toNat) d) (j.toNat) (by simp;omega);refine ty 14 Y Y<|sv Y Y (AJ (l:=x.set (i.toNat) d) (j:=j.toNat) C5e Y Y Y (λw' a=>rO (k:=0) a Y) (Int.toNat_of_nonneg (by omega)).symm (lS r)) ?_;refine tS (λ_ a=>a.fd [] 1 Y)<|ty 15 Y Y<|so (α:=Int) (z:=f) 0 PC Y Y Y Y Y (lS r) ?_;refine tZ Y<|tE<|A3 0 Y (show((x.set (i.toNat) d).set (j.toNat) f:(List Int))=swp x i.toNat j.toNat from by unfold swp;rw[KI b,KI c]) ?_;exact CY rfl λw' a=>⟨rfl,a⟩
   ·refine sv Y Y (lo (α:=Int) 0 CJ Y Y Y b)<|tS (λ_ a=>a.fd [] 1 Y)<|ty 7 Y Y<|sv Y Y (lo (α:=Int) 0 CJ Y Y Y c) ?_;refine tS (λ_ a=>a.fd [] 1 Y)<|ty 12 Y Y<|sv Y Y (AJ (l:=x) (j:=i.toNat) C5e Y Y Y (λw' a=>rO (k:=0) a Y) (Int.toNat_of_nonneg (by omega)).symm (lS b)) ?_;refine tS (λ_ a=>a.fd [] 1 Y)<|ty 13 Y Y<|so (α:=Int) (z:=d) 0 PC Y Y Y Y Y (lS b) ?_;refine tS (λ_ a=>a.fd [] 1 Y) ?_;obtain⟨u,g⟩:=sI (x.set (i.toNat) d) (j.toNat) (by simp;omega);refine ty 14 Y Y<|sv Y Y (AJ (l:=x.set (i.toNat) d) (j:=j.toNat) C5e Y Y Y (λw' a=>rO (k:=0) a Y) (Int.toNat_of_nonneg (by omega)).symm (lS g)) ?_;refine tS (λ_ a=>a.fd [] 1 Y)<|ty 15 Y Y<|so (α:=Int) (z:=f) 0 PC Y Y Y Y Y (lS g) ?_;refine tZ Y<|tE<|A3 0 Y (show((x.set (i.toNat) d).set (j.toNat) f:(List Int))=swp x i.toNat j.toNat from by unfold swp;rw[KI b,KI c]) ?_;exact CY rfl λw' a=>⟨rfl,a⟩
  ·refine sv Y Y (lo (α:=Int) 0 CJ Y Y Y b)<|tS (λ_ a=>a.fd [] 1 Y)<|ty 6 Y Y<|sv Y Y (AJ (l:=x) (j:=j.toNat) C5e Y Y Y (λw' a=>rO (k:=0) a Y) (Int.toNat_of_nonneg (by omega)).symm (lS c)) ?_;refine tS (λ_ a=>a.fd [] 1 Y)<|ty 7 Y Y<|sv Y Y (lo (α:=Int) 0 CJ Y Y Y c) ?_;refine tS (λ_ a=>a.fd [] 1 Y)<|ty 12 Y Y<|sv Y Y (AJ (l:=x) (j:=i.toNat) C5e Y Y Y (λw' a=>rO (k:=0) a Y) (Int.toNat_of_nonneg (by omega)).symm (lS b)) ?_;refine tS (λ_ a=>a.fd [] 1 Y)<|ty 13 Y Y<|so (α:=Int) (z:=d) 0 PC Y Y Y Y Y (lS b) ?_;refine tS (λ_ a=>a.fd [] 1 Y) ?_;obtain⟨v,h⟩:=sI (x.set (i.toNat) d) (j.toNat) (by simp;omega);refine ty 14 Y Y<|sv Y Y (AJ (l:=x.set (i.toNat) d) (j:=j.toNat) C5e Y Y Y (λw' a=>rO (k:=0) a Y) (Int.toNat_of_nonneg (by omega)).symm (lS h)) ?_;refine tS (λ_ a=>a.fd [] 1 Y)<|ty 15 Y Y<|so (α:=Int) (z:=f) 0 PC Y Y Y Y Y (lS h) ?_;refine tZ Y<|tE<|A3 0 Y (show((x.set (i.toNat) d).set (j.toNat) f:(List Int))=swp x i.toNat j.toNat from by unfold swp;rw[KI b,KI c]) ?_;exact CY rfl λw' a=>⟨rfl,a⟩
theorem Z1{w:World}{a:Value}{x:List Int}{i:Int}{j:Int}(b:Gd.rd w [a] x)(g:0<=i/\i<x.length)(k:0<=j/\j<x.length):Cy 351 [(.agg #[(.iface 215 a)]),(iv i),(iv j)] w (Val w (.bool (decide (A x j.toNat<A x i.toNat)))):=by
 have d:=rM b;refine enter 12 Tryz.func351 Y Y Y<|Sr (bX Y λf=>?_);refine Pe Y<|Dh [bx f [.iface 215 a]] Y<|Sr<|fl 0 C7t C8W Y<|P2 Y Y<|li Y<|yH Y Y Y Y Y (λw' c=>⟨348,_,C8X,ZZ<|dR (e:=3) (by kernel_rfl) (by kernel_rfl),(IntSlice_Less (rA c b) (by omega) (by omega)).mono λ_ _ h=>⟨h.1,c.ext h.2⟩⟩) ?_;refine Pe Y<|Ct<|Rb Y Y ?_;show((decide (A x j.toNat<A x i.toNat)):Bool)=_;rfl
end Go.Sy.Fal1
end
/-
  Contracts of functions of the program, walked (printed by a program of ours).
  Conditions: those that each theorem states.
-/
section
set_option linter.unusedVariables false
set_option maxRecDepth 20000
namespace Go.Sy.Fal2
open Go Go.RowKit Go.Proofs Go.Sy
open Go.Sy.Pdqs Go.Sy.Fal1
theorem rows:SZ Tryz.prog 231 "Len" =some (#[⟨233,0,true⟩],none)/\SZ Tryz.prog 231 "Swap" =some (#[⟨233,0,true⟩],none):=⟨by kernel_rfl,by kernel_rfl⟩
theorem A7g:SZ Tryz.prog 231 "Less" =some (#[],some (351,false)):=by kernel_rfl
theorem A7h:SZ Tryz.prog 215 "Len" =some (#[],some (347,false)):=by kernel_rfl
theorem A7i:SZ Tryz.prog 215 "Swap" =some (#[],some (350,false)):=by kernel_rfl
theorem uR:Tryz.prog.underlying 231=some (.pointer 233):=by kernel_rfl
theorem uT:Tryz.prog.underlying 215=some (.slice 3):=by kernel_rfl
noncomputable def fR:Field:=match Tryz.prog.underlying 233 with|some (.struct fs)=>fs.getD 0 default|_=>default
theorem uS:Tryz.prog.underlying 233=some (.struct #[fR]):=by kernel_rfl
theorem oR:fR.offset=0:=by kernel_rfl
theorem tR:fR.type=213:=by kernel_rfl
theorem zI:(Tryz.prog.info? 213).map (λi=>i.size)=some 1:=by kernel_rfl
theorem oI:D9 Tryz.prog 213=true:=by kernel_rfl
theorem aR:DV Tryz.prog 233=some 1:=by kernel_rfl
theorem bN:AA Tryz.prog 347=true:=by kernel_rfl
theorem bS:AA Tryz.prog 350=true:=by kernel_rfl
theorem bR:AA Tryz.prog 351=true:=by kernel_rfl
theorem A2U{P:Program}{t:TypeId}{p:Addr}{v:Value}{w:World}(a:D9 P t=true)(hc:w.cell? p=some v):(loadVar t p).run P w= .ok v w:=by
 have h:=WS (P:=P) a hc;simpa [Instr.loadAt,Instr.sureAddr] using h
theorem A2V{P:Program}{t:TypeId}{p:Addr}{es:List Value}{w:World}(a:DV P t=some es.length)(hc:LN w p es):(loadVar t p).run P w= .ok (.agg es.toArray) w:=by
 have h:=N5 (P:=P) a hc;simpa [Instr.loadAt,Instr.sureAddr] using h
abbrev CI(g:Nat)(v:Value)(e:List Int):Chunk:=star (bx g [.iface 215 v]) (ov [v] (e:List Int))
theorem dep:Tryz.prog.types.size+Made.depth=(Tryz.prog.types.size+98)+1+1:=rfl
theorem emb{w0 w:World}{g:Nat}{v:Value}{e:List Int}{a:List Chunk}{nm:String}{f:FuncId}(b:St w0 (CI g v e::a) w)(h1:SZ Tryz.prog 231 nm=some (#[⟨233,0,true⟩],none))(c:SZ Tryz.prog 215 nm=some (#[],some (f,false))):
  (method (Tryz.prog.types.size+Made.depth) 231 (pv g) nm).run Tryz.prog w= .ok (f,v) w:=by
 have j:w.cell? ⟨g,0,none⟩=some (.iface 215 v):=JU (k:=0) rfl rfl w b.split;obtain⟨i,d,h⟩:=Option.map_eq_some_iff.1 zI;rw[dep,tF (fl:=fR) h1 uS rfl oR ⟨i,by rw[tR];exact d,h⟩ (by rw[tR];exact A2U oI j)];exact dR c uT
theorem yJ(w0:World)(g:Nat)(v:Value)(l:List Int)(hl:l.length<=12):Srx Tryz.prog (CI g v) tG l (.iface 231 (pv g)) w0 where
 len Hs w d hp hs:=by
  refine⟨347,_,bN,ZZ (emb hs rows.1 A7h),?_⟩;have:=IntSlice_Len (rO (k:=1) hs.split rfl);exact this.mono λ_ _ h=>⟨by rw[h.1,hp.length_eq],hs.ext h.2⟩
 less Hs w d i j hp hi hj hs:=by
  have b:LN w ⟨g,0,none⟩ [.iface 215 v]:=zK (k:=0) hs.split rfl;have hlen:=hp.length_eq;refine⟨351,_,bR,ZZ (by rw[dep];exact tC A7g uR (A2V (es:=[.iface 215 v]) aR b)),?_⟩;have:=Z1 (i:=(i:Int)) (j:=(j:Int)) (rO (k:=1) hs.split rfl) (by omega) (by omega);exact this.mono λ_ _ h=>⟨by rw[h.1];simp,hs.ext h.2⟩
 swap Hs w d i j hp hi hj hs:=by
  have hlen:=hp.length_eq;refine⟨350,_,bS,ZZ (emb hs rows.2 A7i),?_⟩;have:=IntSlice_Swap w0 _ w v d (i:Int) (j:Int) (by omega) (by omega) (hs.split.perm (List.Perm.swap _ _ _));exact this.mono λ_ _ h=>⟨h.1,by have a:=(h.2.perm (List.Perm.swap _ _ _)).star;simpa using a⟩
theorem nA(w0:World)(a:List Chunk)(w:World)(g:Nat)(v:Value)(l:List Int)(hl:l.length<=12)(b:St w0 (CI g v l::a) w):
  Calls Tryz.prog 209 [(.iface 231 (pv g))].toArray w (λe w'=>e= .returned (.tuple #[])/\∃e',e'=AP l/\St w0 (CI g v e'::a) w'):=
 (mZ (yJ w0 g v l hl) gQ hl a w l (List.Perm.refl l) b).mono λ_ _ ⟨_,e,h1,c,d⟩=>⟨c,e,yI h1.1.perm h1.2,d⟩
theorem O0{w:World}{a:Value}{l:(List Int)}(b:Gd.rd w [a] l)(hl:l.length<=1048576):Cy 52 [a] w (HH w (l:List Int)):=by
 have d:=rM b;refine enter 5 Tryz.func52 Y Y Y<|Sr<|Pe Y<|Sr<|p1 Y<|CG (α:=Int)<|li Y (PW (α:=Int) (ys:=l) C1s vH Y Y Y Y Y Y (λw' c=>rA c b) (by simp;omega) (by simp;omega) λv2=>?_);refine Pe Y<|Ct (FV Y Y λw' c=>A7 (k:=0) c Y ?_);show([])++l=l;simp
theorem dS{w:World}{a:Value}{l:(List Int)}(b:Gd.rd w [a] l)(hl:l.length<=1048576):Cy 98 [a] w (HH w (l:List Int)):=by
 have d:=rM b;refine enter 6 Tryz.func98 Y Y Y<|Sr<|Pe Y<|Sr<|li Y (FL (α:=Int) C1s Y Y Y λv2=>?_);refine p1 Y<|li Y (PW (α:=Int) (ys:=l) C1s vH Y Y Y Y Y Y (λw' c=>rA c b) (by simp;omega) (by simp;omega) λv3=>?_);refine Pe Y<|Ct (FV Y Y λw' c=>A7 (k:=0) c Y ?_);show([])++l=l;simp
theorem Z2(w0:World)(d:List Chunk)(w:World)(a:Value)(b:a.oneCell'=true)(c:St w0 d w):Cy 210 [a] w (λe w'=>∃g:Nat,True/\e= .returned (.iface 231 (pv g))/\St w0 (bx g [a]::d) w'):=by
 refine CX 7 Tryz.func210 Y Y Y c<|Sr<|Pe Y<|Sr<|p1 Y<|q1 Y (FJ (vs:=[(0,a)]) (xs:=[(0,[a])]) (cs:=[a]) C8J Y ⟨Y,AO b,trivial⟩ Y Y) (bX Y λf=>?_);refine q1 Y (A5n C8K Y Y)<|Pe Y<|Ct ?_;exact FV rfl rfl λw' h=>⟨f,trivial,rfl,h⟩
theorem QQ{w:World}{b:Value}{l:(List Int)}(c:Gd.rd w [b] l)(hl:l.length<=12):Cy 164 [b] w (HH w (AP l:(List Int))):=by
 have f:=rM c;refine enter 11 Tryz.func164 Y Y Y<|Sr<|Pe Y<|Sr<|p1 Y (ql A6l Y (λw' a=>O0 (rA a c) (by first|assumption|omega|(unfold ED at*;split at* <;>omega))) λv2=>?_);refine Pe Y<|Dh [ov [v2] (l:(List Int))] Y<|Sr<|p1 Y<|q1 Y (A0y C5e Y Y)<|li Y (K7 (σ:=Nat) (val:=λg=> .iface 231<|pv g) (H':=λg=>bx g [.iface 215 v2]::_) (J:=λ_=>True) TT Y Y Y Y (λw' a=>(Z2 _ _ w' (.iface 215 v2) Y a).mono λ_ _ ⟨g,h1,h,i⟩=>⟨g,h,h1,i⟩) λe _=>?_);refine A0z<|li Y (GK (C:=CI e v2) P5 Y Y Y Y (λw' a=>nA _ _ w' e v2 l (by omega) a) λj d=>?_);subst d;refine A1A<|Dx<|Sr<|PE 2 Y<|Ct (FV Y Y λw' a=>A7 (k:=1) a Y ?_);show AP l=AP l;rfl
end Go.Sy.Fal2
end
