/-
  The data of the chapters on beliefs, as plain Lean structures.
  Conditions: none.
-/
namespace Go.Sy
def wr(z:Int):Int:=(z+9223372036854775808)%18446744073709551616-9223372036854775808
structure C1D where
  o:Int
  r:List Int
  p1:List Int
instance:Inhabited C1D:=⟨⟨default,default,default⟩⟩
instance:DecidableEq C1D:=λa b=>decidable_of_iff (a.o=b.o/\a.r=b.r/\a.p1=b.p1) (by cases a;cases b;simp)
structure C1E where
  z:Int
  p4:List C1D
instance:Inhabited C1E:=⟨⟨default,default⟩⟩
instance:DecidableEq C1E:=λa b=>decidable_of_iff (a.z=b.z/\a.p4=b.p4) (by cases a;cases b;simp)
structure C1F where
  d:C1E
  b:List Int
  c:List Int
instance:Inhabited C1F:=⟨⟨default,default,default⟩⟩
instance:DecidableEq C1F:=λa b=>decidable_of_iff (a.d=b.d/\a.b=b.b/\a.c=b.c) (by cases a;cases b;simp)
structure C1G where
  p5:ByteArray
  a:List ByteArray
instance:Inhabited C1G:=⟨⟨default,default⟩⟩
theorem C1G.mk_eq{a b:C1G}(d:a.p5=b.p5)(c:a.a=b.a):a=b:=by cases a;cases b;simp_all
instance:DecidableEq C1G:=λa b=>decidable_of_iff (a.p5=b.p5/\a.a=b.a) (by cases a;cases b;simp)
structure C1H where
  p5:ByteArray
  a:List ByteArray
instance:Inhabited C1H:=⟨⟨default,default⟩⟩
theorem C1H.mk_eq{a b:C1H}(d:a.p5=b.p5)(c:a.a=b.a):a=b:=by cases a;cases b;simp_all
instance:DecidableEq C1H:=λa b=>decidable_of_iff (a.p5=b.p5/\a.a=b.a) (by cases a;cases b;simp)
structure C1J where
  q4:ByteArray
  q3:ByteArray
instance:Inhabited C1J:=⟨⟨default,default⟩⟩
theorem C1J.mk_eq{a b:C1J}(d:a.q4=b.q4)(c:a.q3=b.q3):a=b:=by cases a;cases b;simp_all
instance:DecidableEq C1J:=λa b=>decidable_of_iff (a.q4=b.q4/\a.q3=b.q3) (by cases a;cases b;simp)
structure C1K where
  s:Int
  p7:ByteArray
  j:C1G
instance:Inhabited C1K:=⟨⟨default,default,default⟩⟩
theorem C1K.mk_eq{a b:C1K}(c:a.s=b.s)(d:a.p7=b.p7)(e:a.j=b.j):a=b:=by cases a;cases b;simp_all
instance:DecidableEq C1K:=λa b=>decidable_of_iff (a.s=b.s/\a.p7=b.p7/\a.j=b.j) (by cases a;cases b;simp)
structure C1L where
  s:Int
  p2:C1H
  t:ByteArray
  p6:ByteArray
instance:Inhabited C1L:=⟨⟨default,default,default,default⟩⟩
theorem C1L.mk_eq{a b:C1L}(e:a.s=b.s)(c:a.p2=b.p2)(f:a.t=b.t)(d:a.p6=b.p6):a=b:=by cases a;cases b;simp_all
instance:DecidableEq C1L:=λa b=>decidable_of_iff (a.s=b.s/\a.p2=b.p2/\a.t=b.t/\a.p6=b.p6) (by cases a;cases b;simp)
structure Action where
  s:Int
  p2:C1H
instance:Inhabited Action:=⟨⟨default,default⟩⟩
theorem Action.mk_eq{a b:Action}(d:a.s=b.s)(c:a.p2=b.p2):a=b:=by cases a;cases b;simp_all
instance:DecidableEq Action:=λa b=>decidable_of_iff (a.s=b.s/\a.p2=b.p2) (by cases a;cases b;simp)
structure C1M where
  y:ByteArray
  p3:Int
  q:List C1L
  q0:List Action
instance:Inhabited C1M:=⟨⟨default,default,default,default⟩⟩
theorem C1M.mk_eq{a b:C1M}(d:a.y=b.y)(c:a.p3=b.p3)(f:a.q=b.q)(e:a.q0=b.q0):a=b:=by cases a;cases b;simp_all
instance:DecidableEq C1M:=λa b=>decidable_of_iff (a.y=b.y/\a.p3=b.p3/\a.q=b.q/\a.q0=b.q0) (by cases a;cases b;simp)
structure C1N where
  j:C1G
  q1:Int
instance:Inhabited C1N:=⟨⟨default,default⟩⟩
theorem C1N.mk_eq{a b:C1N}(c:a.j=b.j)(d:a.q1=b.q1):a=b:=by cases a;cases b;simp_all
instance:DecidableEq C1N:=λa b=>decidable_of_iff (a.j=b.j/\a.q1=b.q1) (by cases a;cases b;simp)
structure C1O where
  p7:ByteArray
  q2:List Int
instance:Inhabited C1O:=⟨⟨default,default⟩⟩
theorem C1O.mk_eq{a b:C1O}(d:a.p7=b.p7)(c:a.q2=b.q2):a=b:=by cases a;cases b;simp_all
instance:DecidableEq C1O:=λa b=>decidable_of_iff (a.p7=b.p7/\a.q2=b.q2) (by cases a;cases b;simp)
structure C1P where
  p8:List C1M
  w:List C1N
  g:Int
  m:List C1O
  p:Bool
  u:List C1K
instance:Inhabited C1P:=⟨⟨default,default,default,default,default,default⟩⟩
theorem C1P.mk_eq{a b:C1P}(e:a.p8=b.p8)(c:a.w=b.w)(f:a.g=b.g)(h:a.m=b.m)(d:a.p=b.p)(i:a.u=b.u):a=b:=by cases a;cases b;simp_all
instance:DecidableEq C1P:=λa b=>decidable_of_iff (a.p8=b.p8/\a.w=b.w/\a.g=b.g/\a.m=b.m/\a.p=b.p/\a.u=b.u) (by cases a;cases b;simp)
structure Match where
  p7:ByteArray
  k:List C1G
  f:List C1J
instance:Inhabited Match:=⟨⟨default,default,default⟩⟩
theorem Match.mk_eq{a b:Match}(e:a.p7=b.p7)(d:a.k=b.k)(c:a.f=b.f):a=b:=by cases a;cases b;simp_all
instance:DecidableEq Match:=λa b=>decidable_of_iff (a.p7=b.p7/\a.k=b.k/\a.f=b.f) (by cases a;cases b;simp)
structure C3t where
  k:List C1G
  f:List C1J
instance:Inhabited C3t:=⟨⟨default,default⟩⟩
theorem C3t.mk_eq{a b:C3t}(d:a.k=b.k)(c:a.f=b.f):a=b:=by cases a;cases b;simp_all
instance:DecidableEq C3t:=λa b=>decidable_of_iff (a.k=b.k/\a.f=b.f) (by cases a;cases b;simp)
structure C3z where
  v:Match
  p3:Int
  q2:List Int
  p9:Int
  p0:Int
instance:Inhabited C3z:=⟨⟨default,default,default,default,default⟩⟩
theorem C3z.mk_eq{a b:C3z}(e:a.v=b.v)(c:a.p3=b.p3)(f:a.q2=b.q2)(d:a.p9=b.p9)(g:a.p0=b.p0):a=b:=by cases a;cases b;simp_all
instance:DecidableEq C3z:=λa b=>decidable_of_iff (a.v=b.v/\a.p3=b.p3/\a.q2=b.q2/\a.p9=b.p9/\a.p0=b.p0) (by cases a;cases b;simp)
end Go.Sy
