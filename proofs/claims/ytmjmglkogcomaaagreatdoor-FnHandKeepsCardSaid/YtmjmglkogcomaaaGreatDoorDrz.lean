/-
  Rules read from texts: what the parts are; the known ones are valid.
  Conditions: those that each theorem states.
-/
import Derived.Test.YtmjmglkogcomaaaGreatDoorNum
section
namespace Go.Sy
open Go
def spK(s sep:ByteArray):Nat->List ByteArray->Nat->Nat->List ByteArray
 |0,out,_,_=>out
 |k+1,out,a,i=>if i+sep.size<=s.size then(if s.extract i (i+sep.size)=sep then spK s sep k (out++ [s.extract a i]) (i+sep.size) (i+sep.size) else spK s sep k out a (i+1)) else out++ [s.extract a s.size]
@[irreducible] def CI (s sep : ByteArray) : List ByteArray := spK s sep (s.size + 1) [] 0 0
theorem C0i(s sep:ByteArray):CI s sep=spK s sep (s.size+1) [] 0 0:=by unfold CI;rfl
theorem C0j{s sep:ByteArray}{k a i:Nat}{out l:List ByteArray}(h:l=spK s sep (k+1) out a i)(h1:i+sep.size<=s.size)(b:s.extract i (i+sep.size)=sep):l=spK s sep k (out++ [s.extract a i]) (i+sep.size) (i+sep.size):=by rw[h,spK,if_pos h1,if_pos b]
theorem C0k{s sep:ByteArray}{k a i:Nat}{out l:List ByteArray}(h:l=spK s sep (k+1) out a i)(h1:i+sep.size<=s.size)(b:s.extract i (i+sep.size)≠sep):l=spK s sep k out a (i+1):=by rw[h,spK,if_pos h1,if_neg b]
theorem C1A{s sep:ByteArray}{k a i:Nat}{out l:List ByteArray}(h:l=spK s sep (k+1) out a i)(h1:¬i+sep.size<=s.size):out++ [s.extract a s.size]=l:=by rw[h,spK,if_neg h1]
def at0(l:List ByteArray):ByteArray:=l.headD ⟨#[]⟩
def at1(l:List ByteArray):ByteArray:=l.tail.headD ⟨#[]⟩
def B5w(l:List ByteArray):Bool:=decide (l.length=2)
@[irreducible] def B5S (s : ByteArray) : Bool := B5w (CI s ⟨#[40]⟩) && (decide (0 < (at1 (CI s ⟨#[40]⟩)).size) && decide (sB (at1 (CI s ⟨#[40]⟩)) ((at1 (CI s ⟨#[40]⟩)).size - 1) = 41))
def inS(s:ByteArray):ByteArray:=s.extract 0 (s.size-1)
@[irreducible] def B4l (s : ByteArray) : ByteArray := if B5S s = true then at0 (CI s ⟨#[40]⟩) else ⟨#[]⟩
@[irreducible] def B5A (s : ByteArray) : List ByteArray := if B5S s = true then (if inS (at1 (CI s ⟨#[40]⟩)) = ⟨#[]⟩ then [] else CI (inS (at1 (CI s ⟨#[40]⟩))) ⟨#[44]⟩) else []
def z0P:C1H:=⟨⟨#[]⟩,[]⟩
@[irreducible] def B4m (s : ByteArray) : Bool := B5S s && CK ⟨B4l s, B5A s⟩
@[irreducible] def bG (s : ByteArray) : C1H := if B4m s = true then ⟨B4l s, B5A s⟩ else z0P
def z0K:C1L:=⟨0,z0P,⟨#[]⟩,⟨#[]⟩⟩
def B4j(k:Int):ByteArray:=if k=3 then⟨#[32,61,32]⟩ else if k=4 then⟨#[32,33,61,32]⟩ else⟨#[32,60,32]⟩
def B7L(s:ByteArray)(k:Int):C1L:=⟨k,z0P,at0 (CI s (B4j k)),at1 (CI s (B4j k))⟩
@[irreducible] def B5f (s : ByteArray) (k : Int) : Bool := B5w (CI s (B4j k)) && BD (B7L s k)
def B6Z(s:ByteArray):Bool:=decide (4<s.size)&&decide (s.extract 0 4=⟨#[110,111,116,32]⟩)
def B8o(s:ByteArray):C1L:=if B6Z s=true then⟨2,bG (s.extract 4 s.size),⟨#[]⟩,⟨#[]⟩⟩ else⟨1,bG s,⟨#[]⟩,⟨#[]⟩⟩
def B5t(s:ByteArray):Bool:=if B6Z s=true then B4m (s.extract 4 s.size) else B4m s
@[irreducible] def eB (s : ByteArray) : C1L := if B5f s 3 = true then B7L s 3 else if B5f s 4 = true then B7L s 4 else if B5f s 5 = true then B7L s 5 else if B5t s = true then B8o s else z0K
@[irreducible] def oY (s : ByteArray) : Bool := B5f s 3 || (B5f s 4 || (B5f s 5 || B5t s))
def B8P:ByteArray:=⟨#[97,100,100]⟩
def B8C:ByteArray:=⟨#[100,114,111,112]⟩
def B6T:ByteArray:=⟨#[115,116,111,112]⟩
def B7k(s:ByteArray):Bool:=B5w (CI s ⟨#[32]⟩)&&(decide (at0 (CI s ⟨#[32]⟩)=B8P)||decide (at0 (CI s ⟨#[32]⟩)=B8C))
@[irreducible] def wB (s : ByteArray) : Action := if s = B6T then ⟨3, z0P⟩ else if B7k s = true then ⟨if at0 (CI s ⟨#[32]⟩) = B8P then 1 else 2, bG (at1 (CI s ⟨#[32]⟩))⟩ else ⟨0, z0P⟩
@[irreducible] def B4q (s : ByteArray) : Bool := if s = B6T then true else B7k s && B4m (at1 (CI s ⟨#[32]⟩))
def ifL(s:ByteArray):List ByteArray:=CI s ⟨#[32,38,32]⟩
def B8p(r:C1M)(a b:ByteArray):C1M:=⟨r.y,r.p3,r.q++(ifL a).map eB,r.q0++(ifL b).map wB⟩
@[irreducible] def B5T (r : C1M) (a b : ByteArray) : Bool := (ifL a).all oY && ((ifL b).all B4q && CR (B8p r a b))
def hdL(s:ByteArray):List ByteArray:=CI (at0 (CI s ⟨#[58,32]⟩)) ⟨#[32]⟩
def bdL(s:ByteArray):List ByteArray:=CI (at1 (CI s ⟨#[58,32]⟩)) ⟨#[32,45,62,32]⟩
def B7l(s:ByteArray):Bool:=B5w (CI s ⟨#[58,32]⟩)&&(B5w (hdL s)&&B5w (bdL s))
def B8Q(s:ByteArray):C1M:=⟨at0 (hdL s),pI (at1 (hdL s)),[],[]⟩
@[irreducible] def B5K (s : ByteArray) : Bool := B7l s && (pO (at1 (hdL s)) && B5T (B8Q s) (at0 (bdL s)) (at1 (bdL s)))
def z0R:C1M:=⟨⟨#[]⟩,0,[],[]⟩
@[irreducible] def B4o (s : ByteArray) : C1M := if B5K s = true then B8p (B8Q s) (at0 (bdL s)) (at1 (bdL s)) else z0R
def known:List ByteArray:=[⟨#[114,32,49,58,32,111,110,40,63,120,44,63,121,41,32,38,32,111,110,40,63,121,44,63,122,41,32,45,62,32,97,100,100,32,111,110,40,63,120,44,63,122,41]⟩,
 ⟨#[114,32,50,58,32,111,110,40,63,120,44,63,121,41,32,38,32,112,40,63,121,41,32,45,62,32,97,100,100,32,112,40,63,120,41]⟩,
 ⟨#[114,32,48,58,32,112,40,63,120,41,32,38,32,111,110,40,63,120,44,63,121,41,32,38,32,63,120,32,33,61,32,63,121,32,45,62,32,97,100,100,32,97,116,40,63,121,44,63,120,41]⟩,
 ⟨#[114,32,51,58,32,97,116,40,63,120,44,63,121,41,32,38,32,112,40,63,120,41,32,38,32,112,40,63,121,41,32,38,32,63,120,32,60,32,63,121,32,45,62,32,97,100,100,32,122,40,41]⟩,
 ⟨#[114,32,52,58,32,111,110,40,63,120,44,97,41,32,45,62,32,97,100,100,32,113,40,63,120,41,32,38,32,97,100,100,32,112,40,97,41]⟩,
 ⟨#[114,32,49,58,32,97,116,40,63,120,44,63,120,41,32,38,32,113,40,49,41,32,45,62,32,97,100,100,32,111,110,40,63,120,44,49,41]⟩,
 ⟨#[114,32,49,58,32,112,40,63,120,41,32,38,32,110,111,116,32,113,40,63,120,41,32,45,62,32,97,100,100,32,97,116,40,63,120,44,98,41]⟩,
 ⟨#[114,32,50,58,32,111,110,40,63,120,44,63,121,41,32,38,32,110,111,116,32,97,116,40,63,121,44,63,122,41,32,45,62,32,97,100,100,32,113,40,63,121,41]⟩,
 ⟨#[114,32,53,58,32,97,116,40,63,120,44,63,121,41,32,38,32,110,111,116,32,112,40,63,121,41,32,38,32,63,120,32,33,61,32,63,121,32,45,62,32,97,100,100,32,122,40,41]⟩,
 ⟨#[114,32,57,58,32,113,40,63,120,41,32,38,32,112,40,63,120,41,32,45,62,32,100,114,111,112,32,112,40,63,120,41]⟩,
 ⟨#[114,32,48,58,32,97,116,40,63,120,44,49,41,32,38,32,97,116,40,63,121,44,50,41,32,38,32,63,120,32,61,32,63,121,32,45,62,32,100,114,111,112,32,97,116,40,63,120,44,49,41,32,38,32,115,116,111,112]⟩,
 ⟨#[114,32,49,58,32,111,110,40,63,120,44,63,120,41,32,45,62,32,115,116,111,112]⟩,
 ⟨#[114,32,55,58,32,122,40,41,32,38,32,111,110,40,63,120,44,63,121,41,32,45,62,32,100,114,111,112,32,122,40,41,32,38,32,97,100,100,32,111,110,40,63,121,44,63,120,41]⟩]
def dgt(s:ByteArray):Int:=sB s 0-48
def knB(s:ByteArray):Bool:=B7l s&&(decide (0<=dgt (at1 (hdL s)))&&(decide (dgt (at1 (hdL s))<=9)&&(decide (ES (dgt (at1 (hdL s)))=at1 (hdL s))&&B5T ⟨at0 (hdL s),dgt (at1 (hdL s)),[],[]⟩ (at0 (bdL s)) (at1 (bdL s)))))
theorem C0K{s:ByteArray}(h:knB s=true):B5K s=true/\CR (B4o s)=true:=by
 simp only[knB,Bool.and_eq_true,decide_eq_true_eq] at h;obtain⟨h1,d,g,f,a⟩:=h;have c:=xI d (by omega) f;have e:B8Q s=⟨at0 (hdL s),dgt (at1 (hdL s)),[],[]⟩:=by unfold B8Q;rw[<-c.1]
 have b:B5K s=true:=by
  unfold B5K;rw[h1,<-c.2,e,a];rfl
 refine⟨b,?_⟩;unfold B4o;rw[if_pos b,e];simp only[B5T,Bool.and_eq_true] at a;exact a.2.2
theorem B8R:known.all knB=true:=by kernel_rfl
theorem B8q{s:ByteArray}(h:s∈known):B5K s=true/\CR (B4o s)=true:=C0K (List.all_eq_true.1 B8R s h)
end Go.Sy
end
/-
  What is drawn: facts put into a list.
  Conditions: those that each theorem states.
-/
section
namespace Go.Sy
open Go
theorem B9y{α:Type}{p:α->Bool}{l:List α}{y:α}(h:y∈l)(hd:l.all p=true):p y=true:=List.all_eq_true.1 hd y h
theorem B6D{l:List ByteArray}{y:ByteArray}{n:Nat}(h:y∈l)(hd:l.all (λx=>decide (x.size<=n))=true):y.size<=n:=of_decide_eq_true (B9y (p:=λx=>decide (x.size<=n)) h hd)
section
variable {f x:C1G} {l:List C1G} {k:Nat} {dn:Bool}
end
end Go.Sy
end
