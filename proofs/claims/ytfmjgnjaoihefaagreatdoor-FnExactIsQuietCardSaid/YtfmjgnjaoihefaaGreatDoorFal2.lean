/-
  Contracts of functions of the program, walked (printed by a program of ours).
  Conditions: those that each theorem states.
-/
import Derived.Test.YtfmjgnjaoihefaaGreatDoorFct
import Derived.Test.YtfmjgnjaoihefaaGreatDoorFal1
import Derived.Test.YtfmjgnjaoihefaaGreatDoorPdq
set_option linter.unusedVariables false
set_option maxRecDepth 20000
namespace Go.Sy.Fal2
open Go Go.RowKit Go.Proofs Go.Sy
open Go.Sy.Pdqs Go.Sy.Fal1
theorem rows:SZ Tryz.prog 271 "Len" =some (#[⟨273,0,true⟩],none)/\SZ Tryz.prog 271 "Swap" =some (#[⟨273,0,true⟩],none):=⟨by kernel_rfl,by kernel_rfl⟩
theorem A7g:SZ Tryz.prog 271 "Less" =some (#[],some (377,false)):=by kernel_rfl
theorem A7h:SZ Tryz.prog 259 "Len" =some (#[],some (373,false)):=by kernel_rfl
theorem A7i:SZ Tryz.prog 259 "Swap" =some (#[],some (376,false)):=by kernel_rfl
theorem uR:Tryz.prog.underlying 271=some (.pointer 273):=by kernel_rfl
theorem uT:Tryz.prog.underlying 259=some (.slice 3):=by kernel_rfl
noncomputable def fR:Field:=match Tryz.prog.underlying 273 with|some (.struct fs)=>fs.getD 0 default|_=>default
theorem uS:Tryz.prog.underlying 273=some (.struct #[fR]):=by kernel_rfl
theorem oR:fR.offset=0:=by kernel_rfl
theorem tR:fR.type=257:=by kernel_rfl
theorem zI:(Tryz.prog.info? 257).map (λi=>i.size)=some 1:=by kernel_rfl
theorem oI:D9 Tryz.prog 257=true:=by kernel_rfl
theorem aR:DV Tryz.prog 273=some 1:=by kernel_rfl
theorem bN:AA Tryz.prog 373=true:=by kernel_rfl
theorem bS:AA Tryz.prog 376=true:=by kernel_rfl
theorem bR:AA Tryz.prog 377=true:=by kernel_rfl
theorem A2U{P:Program}{t:TypeId}{p:Addr}{v:Value}{w:World}(a:D9 P t=true)(hc:w.cell? p=some v):(loadVar t p).run P w= .ok v w:=by
 have h:=WS (P:=P) a hc;simpa [Instr.loadAt,Instr.sureAddr] using h
theorem A2V{P:Program}{t:TypeId}{p:Addr}{es:List Value}{w:World}(a:DV P t=some es.length)(hc:LN w p es):(loadVar t p).run P w= .ok (.agg es.toArray) w:=by
 have h:=N5 (P:=P) a hc;simpa [Instr.loadAt,Instr.sureAddr] using h
abbrev CI(g:Nat)(v:Value)(e:List Int):Chunk:=star (bx g [.iface 259 v]) (ov [v] (e:List Int))
theorem dep:Tryz.prog.types.size+Made.depth=(Tryz.prog.types.size+98)+1+1:=rfl
theorem emb{w0 w:World}{g:Nat}{v:Value}{e:List Int}{a:List Chunk}{nm:String}{f:FuncId}(b:St w0 (CI g v e::a) w)(h1:SZ Tryz.prog 271 nm=some (#[⟨273,0,true⟩],none))(c:SZ Tryz.prog 259 nm=some (#[],some (f,false))):
  (method (Tryz.prog.types.size+Made.depth) 271 (pv g) nm).run Tryz.prog w= .ok (f,v) w:=by
 have hc:w.cell? ⟨g,0,none⟩=some (.iface 259 v):=JU (k:=0) rfl rfl w b.split;obtain⟨i,hi,hz⟩:=Option.map_eq_some_iff.1 zI;rw[dep,tF (fl:=fR) h1 uS rfl oR ⟨i,by rw[tR];exact hi,hz⟩ (by rw[tR];exact A2U oI hc)];exact dR c uT
theorem yJ(w0:World)(g:Nat)(v:Value)(l:List Int)(hl:l.length<=12):Srx Tryz.prog (CI g v) tG l (.iface 271 (pv g)) w0 where
 len Hs w d hp hs:=by
  refine⟨373,_,bN,ZZ (emb hs rows.1 A7h),?_⟩;have:=IntSlice_Len (rO (k:=1) hs.split rfl);exact this.mono λ_ _ h=>⟨by rw[h.1,hp.length_eq],hs.ext h.2⟩
 less Hs w d i j hp hi hj hs:=by
  have hc:LN w ⟨g,0,none⟩ [.iface 259 v]:=zK (k:=0) hs.split rfl;have hlen:=hp.length_eq;refine⟨377,_,bR,ZZ (by rw[dep];exact tC A7g uR (A2V (es:=[.iface 259 v]) aR hc)),?_⟩;have:=Z1 (i:=(i:Int)) (j:=(j:Int)) (rO (k:=1) hs.split rfl) (by omega) (by omega);exact this.mono λ_ _ h=>⟨by rw[h.1];simp,hs.ext h.2⟩
 swap Hs w d i j hp hi hj hs:=by
  have hlen:=hp.length_eq;refine⟨376,_,bS,ZZ (emb hs rows.2 A7i),?_⟩;have:=IntSlice_Swap w0 _ w v d (i:Int) (j:Int) (by omega) (by omega) (hs.split.perm (List.Perm.swap _ _ _));exact this.mono λ_ _ h=>⟨h.1,by have a:=(h.2.perm (List.Perm.swap _ _ _)).star;simpa using a⟩
theorem nA(w0:World)(a:List Chunk)(w:World)(g:Nat)(v:Value)(l:List Int)(hl:l.length<=12)(b:St w0 (CI g v l::a) w):
  Calls Tryz.prog 268 [(.iface 271 (pv g))].toArray w (λe w'=>e= .returned (.tuple #[])/\∃e',e'=AP l/\St w0 (CI g v e'::a) w'):=
 (mZ (yJ w0 g v l hl) gQ hl a w l (List.Perm.refl l) b).mono λ_ _ ⟨_,e,h1,c,d⟩=>⟨c,e,yI h1.1.perm h1.2,d⟩
theorem O0{w:World}{a:Value}{l:(List Int)}(b:Gd.rd w [a] l)(hl:l.length<=1048576):Cy 45 [a] w (HH w (l:List Int)):=by
 have c:=rM b;refine enter 5 Tryz.func45 Y Y Y (Sr (Pe Y (Sr (p1 Y (CG (α:=Int) (li Y (PW (α:=Int) (ys:=l) BS vH Y Y Y Y Y Y (λw' hs=>(rA hs b)) (by simp;omega) (by simp;omega) λv2=>?_)))))));refine Pe Y (Ct (FV Y Y λw' hs=>A7 (k:=0) hs Y ?_));show([])++l=l;simp
theorem dS{w:World}{a:Value}{l:(List Int)}(b:Gd.rd w [a] l)(hl:l.length<=1048576):Cy 38 [a] w (HH w (l:List Int)):=by
 have c:=rM b;refine enter 6 Tryz.func38 Y Y Y (Sr (Pe Y (Sr (li Y (FL (α:=Int) BS Y Y Y λv2=>?_)))));refine p1 Y (li Y (PW (α:=Int) (ys:=l) BS vH Y Y Y Y Y Y (λw' hs=>(rA hs b)) (by simp;omega) (by simp;omega) λv3=>?_));refine Pe Y (Ct (FV Y Y λw' hs=>A7 (k:=0) hs Y ?_));show([])++l=l;simp
theorem Z2(w0:World)(d:List Chunk)(w:World)(a:Value)(b:a.oneCell'=true)(c:St w0 d w):Cy 269 [a] w (λe_ w'=>∃g:Nat,True/\e_= .returned (.iface 271 (pv g))/\St w0 (bx g [a]::d) w'):=by
 refine CX 7 Tryz.func269 Y Y Y c (Sr (Pe Y (Sr (p1 Y (q1 Y (FJ (vs:=[(0,a)]) (xs:=[(0,[a])]) (cs:=[a]) A1V Y ⟨Y,(AO b),trivial⟩ Y Y) (bX Y λg1=>?_))))));refine q1 Y (A5n A1W Y Y) (Pe Y (Ct ?_));exact FV rfl rfl λw' hs=>⟨g1,trivial,rfl,hs⟩
theorem QQ{w:World}{a:Value}{l:(List Int)}(b:Gd.rd w [a] l)(hl:l.length<=12):Cy 232 [a] w (HH w (AP l:(List Int))):=by
 have d:=rM b;refine enter 11 Tryz.func232 Y Y Y (Sr (Pe Y (Sr (p1 Y (ql A4E Y (λw' hs=>(O0 (rA hs b) (by first|assumption|omega|(unfold ED at*;split at* <;>omega)))) λv2=>?_)))));refine Pe Y (Dh ([ov [v2] (l:(List Int))]) Y (Sr (p1 Y (q1 Y (A0y G8 Y Y) (li Y (K7 (σ:=Nat) (val:=λg=> .iface 271 (pv g)) (H':=λg=>bx g [(.iface 259 v2)]::_) (J:=λ_=>True) A4F Y Y Y Y (λw' hs=>(Z2 _ _ w' (.iface 259 v2) Y hs).mono λ_ _ ⟨g,h1,e,f⟩=>⟨g,e,h1,f⟩) λg3 _=>?_))))));refine A0z (li Y (GK (C:=CI g3 v2) A4G Y Y Y Y (λw' hs=>nA _ _ w' g3 v2 l (by omega) hs) λh c=>?_));subst c;refine A1A (Dx (Sr (P2 Y Y (Dx (Ct (FV Y Y λw' hs=>A7 (k:=1) hs Y ?_))))));show AP l=AP l;rfl
end Go.Sy.Fal2
