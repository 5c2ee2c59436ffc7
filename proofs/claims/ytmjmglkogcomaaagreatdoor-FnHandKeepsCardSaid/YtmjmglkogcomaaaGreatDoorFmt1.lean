/-
  Numbers as texts; reasons written out.
  Conditions: those that each theorem states.
-/
import Derived.Test.YtmjmglkogcomaaaGreatDoorEv
import Derived.Lib.ItoaNum
import Derived.Lib.ItoaLen
import Derived.Test.YtmjmglkogcomaaaGreatDoorFct
import Derived.Test.YtmjmglkogcomaaaGreatDoorShelf
section
namespace Go.Sy
open Go
def ES(n:Int):ByteArray:=⟨(Lib.itoa n).toArray⟩
theorem fY{n:Int}(h0: -9223372036854775808<=n)(h1:n<=9223372036854775807):(ES n).size<=21:=by
 have:=Lib.itoa_length_le n h0 h1;show(Lib.itoa n).toArray.size<=21;simpa using this
theorem fZ{a b:ByteArray}(h:a.data.toList=b.data.toList):a=b:=by
 cases a;cases b
 simp only at h
 congr 1
 exact Array.toList_inj.1 h
theorem gA(a b:ByteArray):(a++b).data.toList=a.data.toList++b.data.toList:=by
 rw[ByteArray.data_append];simp
def gB(n nn:Int)(s:ByteArray):Prop:=0<=nn/\nn<=n/\Lib.decDigits n.toNat=Lib.decDigits nn.toNat++s.data.toList
theorem XA{n:Int}(h:0<=n):gB n n ⟨#[]⟩:=⟨h,Int.le_refl _,by simp⟩
theorem ZG{n:Int}(h:0<=n):Int.tmod n 10=((n.toNat%10:Nat):Int):=by
 rw[Int.tmod_eq_emod_of_nonneg h];omega
theorem xE(u:Nat)(h:u<=9223372036854775807):(Lib.decDigits u).length<=21:=by
 have:=Lib.itoa_length_le (u:Int) (by omega) (by omega);unfold Lib.itoa at this;rw[if_neg (by omega)] at this;simpa using this
theorem jU{n a:Int}{s:ByteArray}(h:gB n a s)(b:n<=9223372036854775807):s.size<=21:=by
 have h1:=congrArg List.length h.2.2;rw[List.length_append] at h1;have c:=xE n.toNat (by omega);have d:s.data.toList.length=s.size:=by rw[Array.length_toList];rfl
 omega
theorem XB{n a:Int}{s:ByteArray}(h:gB n a s)(f:a/10≠0):gB n (a/10) ((⟨#[UInt8.ofNat (48+Int.tmod a 10).toNat]⟩:ByteArray)++s):=by
 obtain⟨h0,h1,b⟩:=h;refine⟨by omega,by omega,?_⟩;rw[b,gA];have c:Lib.decDigits a.toNat=Lib.decDigits (a.toNat/10)++ [UInt8.ofNat (48+a.toNat%10)]:=by
  rw[Lib.decDigits,dif_neg (by omega)]
 have d:(a/10).toNat=a.toNat/10:=by omega
 have e:(48+Int.tmod a 10).toNat=48+a.toNat%10:=by rw[ZG h0];omega
 rw[c,d,e,List.append_assoc]
theorem XC{n a:Int}{s:ByteArray}(h:gB n a s)(e:a/10=0):(⟨#[UInt8.ofNat (48+Int.tmod a 10).toNat]⟩:ByteArray)++s=ES n:=by
 obtain⟨h0,h1,b⟩:=h
 apply fZ
 rw[gA];have c:Lib.decDigits a.toNat=[UInt8.ofNat (48+a.toNat)]:=Lib.decDigits_one (by omega);have d:(48+Int.tmod a 10).toNat=48+a.toNat:=by rw[ZG h0];omega
 unfold ES Lib.itoa;rw[if_neg (by omega),b,c,d]
theorem itoa_neg{n:Int}(h:n<0)(a: -9223372036854775808<=n):(⟨#[45]⟩:ByteArray)++ES (-n)=ES n:=by
 apply fZ
 rw[gA];unfold ES Lib.itoa;rw[if_neg (by omega),if_pos h];have:(-n).toNat=n.natAbs:=by omega
 rw[this];rfl
theorem rQ:(⟨#[45,57,50,50,51,51,55,50,48,51,54,56,53,52,55,55,53,56,48,56]⟩:ByteArray)=ES (-9223372036854775808):=by
 apply fZ
 decide+kernel
end Go.Sy
end
/-
  Contracts of functions of the program, walked (printed by a program of ours).
  Conditions: those that each theorem states.
-/
section
set_option linter.unusedVariables false
set_option maxRecDepth 20000
namespace Go.Sy.Fmt1
open Go Go.RowKit Go.Proofs Go.Sy
open Go.Sy.Bel1
def Tb(w:World):Prop:=Lib.TabIs Tryz.prog w "internal/strconv.uint64pow10" .u64 Lib.pow10Tab/\∃tp p,w.var? Tryz.prog "strconv.ErrSyntax" =some #[.iface tp p]
theorem A5U:Tryz.prog.globalNamed "strconv.ErrSyntax" =some 1:=by kernel_rfl
theorem A5V:Tryz.prog.globalNamed "internal/strconv.uint64pow10" =some 3:=by kernel_rfl
theorem Tb.ext{w w':World}(h:Tb w)(e:Ex w w'):Tb w':=by
 obtain⟨h,tp,p,b⟩:=h;have a:1<w.heap.size:=by
  rcases Nat.lt_or_ge 1 w.heap.size with c|c
  ·exact c
  ·exfalso;unfold World.var? at b;simp only[A5U,Option.bind_some,Array.getElem?_eq_none c] at b
   cases b
 have f:=Lib.TabIs.cell h A5V 0 (by decide);have d:3<w.heap.size:=lt_of_cell f;refine⟨?_,tp,p,?_⟩
 rotate_left
 ·unfold World.var? at*;simp only[A5U,Option.bind_some] at b⊢;rw[e.block 1 a];exact b
 unfold Lib.TabIs World.var? at*;simp only[A5V,Option.bind_some] at h⊢;rw[e.block 3 d];exact h
theorem xF(w:World)(k:Nat)(os:Array Obj):Ex w (Go.Sort.grow (w.drewN k) os):=
 ⟨rfl,rfl,rfl,by simp[Go.Sort.grow,World.drewN],λg a=>by
  show(w.heap++os)[g]?=w.heap[g]?;rw[Array.getElem?_append_left a]⟩
theorem UF(w:World)(n:Int)(b: -9223372036854775808<=n/\n<=9223372036854775807)(a:Tb w):Cy 231 [Value.int .i64 n] w (Val w (.string (ES n))):=
 (Tryz.strconv_Itoa n b.1 b.2 w a.1).mono λe w' ⟨he,k,os,hw⟩=>⟨he,hw▸xF w k os⟩
theorem UG{w:World}{n:Int}(c: -9223372036854775808<=n/\n<=9223372036854775807)(a:Tb w):Cy 193 [(iv n)] w (Val w (.string (ES n))):=by
 refine enter 5 Tryz.func193 Y Y Y<|Sr<|Pe Y<|Sr<|p1 Y<|qv C8T Y (λw' b=>UF w' n ‹_›<|Tb.ext a b.bel)<|Pe Y<|Ct<|Rs Y Y ?_;show((ES n):ByteArray)=_;rfl
theorem RJ{w:World}{n:Int}(o:0<=n/\n<=9223372036854775807):Cy 144 [(iv n)] w (Val w (.string (ES n))):=by
 refine enter 25 Tryz.func144 Y Y Y<|Sr<|Pe Y<|Cq<|Sr<|PE 2 Y<|Ce Y (λf=>?_) λf=>?_
 ·refine Cq ?_;exfalso;omega
 ·refine Sk<|Cq<|Sr<|PE 2 Y<|Cd Y (λg=>?_) λg=>?_
  ·refine Cq ?_;exfalso;omega
  ·refine Sk<|Sr<|Pe Y<|Cb<|Cl (λj d w'=>∃(a:Int),∃(s:ByteArray),(gB n a s)/\j=a.toNat/\Fits d 25 [(0,iv a),(3,.string s)]/\St w ([]) w') ?_ ?_
   ·refine λd w' b c=>⟨_,n,⟨#[]⟩,?_,Y,b.wk Y,c⟩
    ·exact XA (by omega)
   ·rintro j d w' ⟨a,s,e,rfl,b,c⟩;refine D.use ?_ b c;clear b c d w';have h:=e.1;have k:=e.2.1;have hsz:=jU e (by omega);have m:=ZG h;refine Cb<|Sr<|p1 Y<|q1 Y (oH Y Y Y Y)<|q1 Y (DW Y Y Y Y (by omega))<|q1 Y (oT VL ⟨_,LO⟩ Y Y (by omega))<|li Y (FF lU y_5 Y (by decide) (by decide) Y Y Y Y Y Y λl=>?_);refine q1 Y (fG 0 B8g VL F5 Y Y Y)<|p1 Y<|q1 Y (aQ Y Y Y (by show 1+s.size<=9223372036854775807;omega))<|Pe Y<|Dh [bx l [.int .u8 (48+(Int.tmod a 10))]] Y<|Sr<|p1 Y<|q1 Y (oS Y Y Y (by omega) (by omega))<|Pe Y<|Sr<|PE 2 Y<|Ce Y (λi=>?_) λi=>?_
    ·refine Sr<|PE 2 Y<|Ct<|Xq<|Xr<|Xq<|Rs Y Y ?_;show(((⟨#[UInt8.ofNat (48+(Int.tmod a 10)).toNat]⟩:ByteArray)++s):ByteArray)=_;exact XC e (by omega)
    ·refine Ck<|Xb<|Xt λd w' b c=>⟨_,?_,(a/10),((⟨#[UInt8.ofNat (48+(Int.tmod a 10)).toNat]⟩:ByteArray)++s),?_,Y,b.wk Y,c.pk [] Y Y⟩
     ·omega
     ·exact XB e (by omega)
theorem UH{w:World}{n:Int}(o: -9223372036854775808<=n/\n<=9223372036854775807):Cy 144 [(iv n)] w (Val w (.string (ES n))):=by
 refine enter 25 Tryz.func144 Y Y Y<|Sr<|Pe Y<|Cq<|Sr<|PE 2 Y<|Ce Y (λf=>?_) λf=>?_
 ·refine Sr<|Pe Y<|Ct<|Xr<|Rs Y Y ?_;show(⟨#[45,57,50,50,51,51,55,50,48,51,54,56,53,52,55,55,53,56,48,56]⟩:ByteArray)=_;rw[show n= -9223372036854775808 by omega];exact rQ
 ·refine Sk<|Cq<|Sr<|PE 2 Y<|Cd Y (λg=>?_) λg=>?_
  ·refine Sr<|p1 Y<|q1 Y (A3B Y Y Y (by omega))<|qv A3s Y (λw' b=>RJ (by omega))<|q1 Y (aQ Y Y Y (by have:=fY (n:= -n) (by omega) (by omega);show 1+(ES (-n)).size<=9223372036854775807;omega))<|Pe Y<|Ct<|Xr<|Rs Y Y ?_;show((⟨#[45]⟩++(ES (-n))):ByteArray)=_;exact itoa_neg (by omega) (by omega)
  ·refine Sk<|Sr<|Pe Y<|Cb<|Cl (λj d w'=>∃(a:Int),∃(s:ByteArray),(gB n a s)/\j=a.toNat/\Fits d 25 [(0,iv a),(3,.string s)]/\St w ([]) w') ?_ ?_
   ·refine λd w' c b=>⟨_,n,⟨#[]⟩,?_,Y,c.wk Y,b⟩
    ·exact XA (by omega)
   ·rintro j d w' ⟨a,s,e,rfl,c,b⟩;refine D.use ?_ c b;clear c b d w';have h:=e.1;have k:=e.2.1;have hsz:=jU e (by omega);have m:=ZG h;refine Cb<|Sr<|p1 Y<|q1 Y (oH Y Y Y Y)<|q1 Y (DW Y Y Y Y (by omega))<|q1 Y (oT VL ⟨_,LO⟩ Y Y (by omega))<|li Y (FF lU y_5 Y (by decide) (by decide) Y Y Y Y Y Y λl=>?_);refine q1 Y (fG 0 B8g VL F5 Y Y Y)<|p1 Y<|q1 Y (aQ Y Y Y (by show 1+s.size<=9223372036854775807;omega))<|Pe Y<|Dh [bx l [.int .u8 (48+(Int.tmod a 10))]] Y<|Sr<|p1 Y<|q1 Y (oS Y Y Y (by omega) (by omega))<|Pe Y<|Sr<|PE 2 Y<|Ce Y (λi=>?_) λi=>?_
    ·refine Sr<|PE 2 Y<|Ct<|Xq<|Xr<|Xq<|Rs Y Y ?_;show(((⟨#[UInt8.ofNat (48+(Int.tmod a 10)).toNat]⟩:ByteArray)++s):ByteArray)=_;exact XC e (by omega)
    ·refine Ck<|Xb<|Xt λd w' c b=>⟨_,?_,(a/10),((⟨#[UInt8.ofNat (48+(Int.tmod a 10)).toNat]⟩:ByteArray)++s),?_,Y,c.wk Y,b.pk [] Y Y⟩
     ·omega
     ·exact XB e (by omega)
end Go.Sy.Fmt1
end
