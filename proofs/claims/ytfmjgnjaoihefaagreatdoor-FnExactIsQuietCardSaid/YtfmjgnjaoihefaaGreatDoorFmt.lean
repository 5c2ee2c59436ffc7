/-
  Numbers as texts; reasons written out.
  Conditions: those that each theorem states.
-/
import Derived.Test.YtfmjgnjaoihefaaGreatDoorBase
import Derived.Test.YtfmjgnjaoihefaaGreatDoorOwn2
import Derived.Lib.ItoaNum
import Derived.Lib.ItoaLen
namespace Go.Sy
open Go
def ES(n:Int):ByteArray:=⟨(Lib.itoa n).toArray⟩
theorem fY{n:Int}(h0: -9223372036854775808<=n)(h1:n<=9223372036854775807):(ES n).size<=21:=by
 have:=Lib.itoa_length_le n h0 h1;show(Lib.itoa n).toArray.size<=21;simpa using this
theorem fZ{a b:ByteArray}(h:a.data.toList=b.data.toList):a=b:=by
 cases a;cases b
 simp only at h
 congr 1
 exact Array.toList_inj.1 h
theorem gA(a b:ByteArray):(a++b).data.toList=a.data.toList++b.data.toList:=by
 rw[ByteArray.data_append];simp
def gB(n nn:Int)(s:ByteArray):Prop:=0<=nn/\nn<=n/\Lib.decDigits n.toNat=Lib.decDigits nn.toNat++s.data.toList
theorem XA{n:Int}(h:0<=n):gB n n ⟨#[]⟩:=⟨h,Int.le_refl _,by simp⟩
theorem ZG{n:Int}(h:0<=n):Int.tmod n 10=((n.toNat%10:Nat):Int):=by
 rw[Int.tmod_eq_emod_of_nonneg h];omega
theorem xE(u:Nat)(h:u<=9223372036854775807):(Lib.decDigits u).length<=21:=by
 have:=Lib.itoa_length_le (u:Int) (by omega) (by omega);unfold Lib.itoa at this;rw[if_neg (by omega)] at this;simpa using this
theorem jU{n a:Int}{s:ByteArray}(h:gB n a s)(b:n<=9223372036854775807):s.size<=21:=by
 have h1:=congrArg List.length h.2.2;rw[List.length_append] at h1;have c:=xE n.toNat (by omega);have d:s.data.toList.length=s.size:=by rw[Array.length_toList];rfl
 omega
theorem XB{n a:Int}{s:ByteArray}(h:gB n a s)(f:a/10≠0):gB n (a/10) ((⟨#[UInt8.ofNat (48+Int.tmod a 10).toNat]⟩:ByteArray)++s):=by
 obtain⟨h0,h1,b⟩:=h;refine⟨by omega,by omega,?_⟩;rw[b,gA];have c:Lib.decDigits a.toNat=Lib.decDigits (a.toNat/10)++ [UInt8.ofNat (48+a.toNat%10)]:=by
  rw[Lib.decDigits,dif_neg (by omega)]
 have d:(a/10).toNat=a.toNat/10:=by omega
 have e:(48+Int.tmod a 10).toNat=48+a.toNat%10:=by rw[ZG h0];omega
 rw[c,d,e,List.append_assoc]
theorem XC{n a:Int}{s:ByteArray}(h:gB n a s)(e:a/10=0):(⟨#[UInt8.ofNat (48+Int.tmod a 10).toNat]⟩:ByteArray)++s=ES n:=by
 obtain⟨h0,h1,b⟩:=h
 apply fZ
 rw[gA];have c:Lib.decDigits a.toNat=[UInt8.ofNat (48+a.toNat)]:=Lib.decDigits_one (by omega);have d:(48+Int.tmod a 10).toNat=48+a.toNat:=by rw[ZG h0];omega
 unfold ES Lib.itoa;rw[if_neg (by omega),b,c,d]
theorem itoa_neg{n:Int}(h:n<0)(a: -9223372036854775808<=n):(⟨#[45]⟩:ByteArray)++ES (-n)=ES n:=by
 apply fZ
 rw[gA];unfold ES Lib.itoa;rw[if_neg (by omega),if_pos h];have:(-n).toNat=n.natAbs:=by omega
 rw[this];rfl
theorem rQ:(⟨#[45,57,50,50,51,51,55,50,48,51,54,56,53,52,55,55,53,56,48,56]⟩:ByteArray)=ES (-9223372036854775808):=by
 apply fZ
 decide+kernel
end Go.Sy
