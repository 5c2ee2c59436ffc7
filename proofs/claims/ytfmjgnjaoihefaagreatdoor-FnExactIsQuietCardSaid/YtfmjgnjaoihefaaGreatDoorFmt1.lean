/-
  Contracts of functions of the program, walked (printed by a program of ours).
  Conditions: those that each theorem states.
-/
import Derived.Test.YtfmjgnjaoihefaaGreatDoorFct
import Derived.Test.YtfmjgnjaoihefaaGreatDoorBel1
import Derived.Test.YtfmjgnjaoihefaaGreatDoorTypes
import Derived.Test.YtfmjgnjaoihefaaGreatDoorBase
import Derived.Test.YtfmjgnjaoihefaaGreatDoorFmt
import Derived.Test.YtfmjgnjaoihefaaGreatDoorShelf
set_option linter.unusedVariables false
set_option maxRecDepth 20000
namespace Go.Sy.Fmt1
open Go Go.RowKit Go.Proofs Go.Sy
open Go.Sy.Bel1
def Tb(w:World):Prop:=Lib.TabIs Tryz.prog w "internal/strconv.uint64pow10" .u64 Lib.pow10Tab/\∃tp p,w.var? Tryz.prog "strconv.ErrSyntax" =some #[.iface tp p]
theorem A5U:Tryz.prog.globalNamed "strconv.ErrSyntax" =some 1:=by kernel_rfl
theorem A5V:Tryz.prog.globalNamed "internal/strconv.uint64pow10" =some 3:=by kernel_rfl
theorem Tb.ext{w w':World}(h:Tb w)(e:Ex w w'):Tb w':=by
 obtain⟨h,tp,p,hv⟩:=h;have a:1<w.heap.size:=by
  rcases Nat.lt_or_ge 1 w.heap.size with hh|hh
  ·exact hh
  ·exfalso;unfold World.var? at hv;simp only[A5U,Option.bind_some,Array.getElem?_eq_none hh] at hv
   cases hv
 have hc:=Lib.TabIs.cell h A5V 0 (by decide);have hlt:3<w.heap.size:=lt_of_cell hc;refine⟨?_,tp,p,?_⟩
 rotate_left
 ·unfold World.var? at*;simp only[A5U,Option.bind_some] at hv⊢;rw[e.block 1 a];exact hv
 unfold Lib.TabIs World.var? at*;simp only[A5V,Option.bind_some] at h⊢;rw[e.block 3 hlt];exact h
theorem xF(w:World)(k:Nat)(os:Array Obj):Ex w (Go.Sort.grow (w.drewN k) os):=
 ⟨rfl,rfl,rfl,by simp[Go.Sort.grow,World.drewN],λg hg=>by
  show(w.heap++os)[g]?=w.heap[g]?;rw[Array.getElem?_append_left hg]⟩
theorem UF(w:World)(n:Int)(b: -9223372036854775808<=n/\n<=9223372036854775807)(a:Tb w):Cy 286 [Value.int .i64 n] w (Val w (.string (ES n))):=
 (Tryz.strconv_Itoa n b.1 b.2 w a.1).mono λe w' ⟨he,k,os,hw⟩=>⟨he,hw▸xF w k os⟩
theorem UG{w:World}{n:Int}(b: -9223372036854775808<=n/\n<=9223372036854775807)(a:Tb w):Cy 272 [(iv n)] w (Val w (.string (ES n))):=by
 refine enter 5 Tryz.func272 Y Y Y (Sr (Pe Y (Sr (p1 Y (qv A3o Y (λw' hs=>(UF w' n ‹_› (Tb.ext a hs.bel))) (Pe Y (Ct (Rs Y Y ?_))))))));show((ES n):ByteArray)=_;rfl
theorem RJ{w:World}{n:Int}(f:0<=n/\n<=9223372036854775807):Cy 275 [(iv n)] w (Val w (.string (ES n))):=by
 refine enter 25 Tryz.func275 Y Y Y (Sr (Pe Y (Cq (Sr (P2 Y Y (Dx (Ce Y (λa=>?_) (λa=>?_))))))))
 ·refine Cq ?_;exfalso;omega
 ·refine Sk (Cq (Sr (P2 Y Y (Dx (Cd Y (λb=>?_) (λb=>?_))))))
  ·refine Cq ?_;exfalso;omega
  ·refine Sk (Sr (Pe Y (Cb (Cl (λm_ ac w'=>∃(nn:Int),∃(s:ByteArray),(gB n nn s)/\m_=nn.toNat/\Fits ac 25 [(0,(iv nn)),(3,(.string s))]/\St w ([]) w') ?_ ?_))))
   ·refine λac w' hf hs=>⟨_,n,⟨#[]⟩,?_,Y,hf.wk Y,hs⟩
    ·exact XA (by omega)
   ·rintro m_ ac w' ⟨nn,s,hd,rfl,hf,hs⟩;refine D.use ?_ hf hs;clear hf hs ac w';have c:=hd.1;have e:=hd.2.1;have hsz:=jU hd (by omega);have htm:=ZG c;refine Cb (Sr (p1 Y (q1 Y (oH Y Y Y Y) (q1 Y (DW Y Y Y Y (by omega)) (q1 Y (oT VL ⟨_,LO⟩ Y Y (by omega)) (li Y (FF pY y_5 Y (by decide) (by decide) Y Y Y Y Y Y λg3=>?_)))))));refine q1 Y (fG 0 YS VL F5 Y Y Y) (p1 Y (q1 Y (aQ Y Y Y (by show 1+s.size<=9223372036854775807;omega)) (Pe Y (Dh ([bx g3 [(.int .u8 (48+(Int.tmod nn 10)))]]) Y (Sr (p1 Y (q1 Y (oS Y Y Y (by omega) (by omega)) (Pe Y (Sr (P2 Y Y (Dx (Ce Y (λd=>?_) (λd=>?_)))))))))))))
    ·refine Sr (P2 Y Y (Dx (Ct (Xq (Xr (Xq (Rs Y Y ?_)))))));show(((⟨#[UInt8.ofNat (48+(Int.tmod nn 10)).toNat]⟩:ByteArray)++s):ByteArray)=_;exact XC hd (by omega)
    ·refine Ck (Xb (Xt (λac w' hf hs=>⟨_,?_,(nn/10),((⟨#[UInt8.ofNat (48+(Int.tmod nn 10)).toNat]⟩:ByteArray)++s),?_,Y,hf.wk Y,hs.pk [] Y Y⟩)))
     ·omega
     ·exact XB hd (by omega)
theorem UH{w:World}{n:Int}(f: -9223372036854775808<=n/\n<=9223372036854775807):Cy 275 [(iv n)] w (Val w (.string (ES n))):=by
 refine enter 25 Tryz.func275 Y Y Y (Sr (Pe Y (Cq (Sr (P2 Y Y (Dx (Ce Y (λa=>?_) (λa=>?_))))))))
 ·refine Sr (Pe Y (Ct (Xr (Rs Y Y ?_))));show(⟨#[45,57,50,50,51,51,55,50,48,51,54,56,53,52,55,55,53,56,48,56]⟩:ByteArray)=_;rw[show n= -9223372036854775808 by omega];exact rQ
 ·refine Sk (Cq (Sr (P2 Y Y (Dx (Cd Y (λb=>?_) (λb=>?_))))))
  ·refine Sr (p1 Y (q1 Y (A3B Y Y Y (by omega)) (qv A0E Y (λw' hs=>(RJ (by omega))) (q1 Y (aQ Y Y Y (by have:=fY (n:= -n) (by omega) (by omega);show 1+(ES (-n)).size<=9223372036854775807;omega)) (Pe Y (Ct (Xr (Rs Y Y ?_))))))));show((⟨#[45]⟩++(ES (-n))):ByteArray)=_;exact itoa_neg (by omega) (by omega)
  ·refine Sk (Sr (Pe Y (Cb (Cl (λm_ ac w'=>∃(nn:Int),∃(s:ByteArray),(gB n nn s)/\m_=nn.toNat/\Fits ac 25 [(0,(iv nn)),(3,(.string s))]/\St w ([]) w') ?_ ?_))))
   ·refine λac w' hf hs=>⟨_,n,⟨#[]⟩,?_,Y,hf.wk Y,hs⟩
    ·exact XA (by omega)
   ·rintro m_ ac w' ⟨nn,s,hd,rfl,hf,hs⟩;refine D.use ?_ hf hs;clear hf hs ac w';have c:=hd.1;have e:=hd.2.1;have hsz:=jU hd (by omega);have htm:=ZG c;refine Cb (Sr (p1 Y (q1 Y (oH Y Y Y Y) (q1 Y (DW Y Y Y Y (by omega)) (q1 Y (oT VL ⟨_,LO⟩ Y Y (by omega)) (li Y (FF pY y_5 Y (by decide) (by decide) Y Y Y Y Y Y λg3=>?_)))))));refine q1 Y (fG 0 YS VL F5 Y Y Y) (p1 Y (q1 Y (aQ Y Y Y (by show 1+s.size<=9223372036854775807;omega)) (Pe Y (Dh ([bx g3 [(.int .u8 (48+(Int.tmod nn 10)))]]) Y (Sr (p1 Y (q1 Y (oS Y Y Y (by omega) (by omega)) (Pe Y (Sr (P2 Y Y (Dx (Ce Y (λd=>?_) (λd=>?_)))))))))))))
    ·refine Sr (P2 Y Y (Dx (Ct (Xq (Xr (Xq (Rs Y Y ?_)))))));show(((⟨#[UInt8.ofNat (48+(Int.tmod nn 10)).toNat]⟩:ByteArray)++s):ByteArray)=_;exact XC hd (by omega)
    ·refine Ck (Xb (Xt (λac w' hf hs=>⟨_,?_,(nn/10),((⟨#[UInt8.ofNat (48+(Int.tmod nn 10)).toNat]⟩:ByteArray)++s),?_,Y,hf.wk Y,hs.pk [] Y Y⟩)))
     ·omega
     ·exact XB hd (by omega)
end Go.Sy.Fmt1
