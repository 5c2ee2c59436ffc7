/-
  The data of the chapters on beliefs, as plain Lean structures.
  Conditions: none.
-/
namespace Go.Sy
structure Reason where
  For:Int
  In:List Int
  Out:List Int
instance:Inhabited Reason:=⟨⟨default,default,default⟩⟩
instance:DecidableEq Reason:=λa b=>decidable_of_iff (a.For=b.For/\a.In=b.In/\a.Out=b.Out) (by cases a;cases b;simp)
structure Beliefs where
  Nodes:Int
  Reasons:List Reason
instance:Inhabited Beliefs:=⟨⟨default,default⟩⟩
instance:DecidableEq Beliefs:=λa b=>decidable_of_iff (a.Nodes=b.Nodes/\a.Reasons=b.Reasons) (by cases a;cases b;simp)
structure Frame where
  Beliefs:Beliefs
  Assumed:List Int
  Bad:List Int
instance:Inhabited Frame:=⟨⟨default,default,default⟩⟩
instance:DecidableEq Frame:=λa b=>decidable_of_iff (a.Beliefs=b.Beliefs/\a.Assumed=b.Assumed/\a.Bad=b.Bad) (by cases a;cases b;simp)
structure Fact where
  Rel:ByteArray
  Args:List ByteArray
instance:Inhabited Fact:=⟨⟨default,default⟩⟩
theorem Fact.mk_eq{a b:Fact}(d:a.Rel=b.Rel)(c:a.Args=b.Args):a=b:=by cases a;cases b;simp_all
instance:DecidableEq Fact:=λa b=>decidable_of_iff (a.Rel=b.Rel/\a.Args=b.Args) (by cases a;cases b;simp)
structure Pattern where
  Rel:ByteArray
  Args:List ByteArray
instance:Inhabited Pattern:=⟨⟨default,default⟩⟩
theorem Pattern.mk_eq{a b:Pattern}(d:a.Rel=b.Rel)(c:a.Args=b.Args):a=b:=by cases a;cases b;simp_all
instance:DecidableEq Pattern:=λa b=>decidable_of_iff (a.Rel=b.Rel/\a.Args=b.Args) (by cases a;cases b;simp)
structure Pair where
  Var:ByteArray
  Value:ByteArray
instance:Inhabited Pair:=⟨⟨default,default⟩⟩
theorem Pair.mk_eq{a b:Pair}(d:a.Var=b.Var)(c:a.Value=b.Value):a=b:=by cases a;cases b;simp_all
instance:DecidableEq Pair:=λa b=>decidable_of_iff (a.Var=b.Var/\a.Value=b.Value) (by cases a;cases b;simp)
structure Event where
  Kind:Int
  Rule:ByteArray
  Fact:Fact
instance:Inhabited Event:=⟨⟨default,default,default⟩⟩
theorem Event.mk_eq{a b:Event}(c:a.Kind=b.Kind)(d:a.Rule=b.Rule)(e:a.Fact=b.Fact):a=b:=by cases a;cases b;simp_all
instance:DecidableEq Event:=λa b=>decidable_of_iff (a.Kind=b.Kind/\a.Rule=b.Rule/\a.Fact=b.Fact) (by cases a;cases b;simp)
structure Cond where
  Kind:Int
  Pattern:Pattern
  Left:ByteArray
  Right:ByteArray
instance:Inhabited Cond:=⟨⟨default,default,default,default⟩⟩
theorem Cond.mk_eq{a b:Cond}(e:a.Kind=b.Kind)(c:a.Pattern=b.Pattern)(f:a.Left=b.Left)(d:a.Right=b.Right):a=b:=by cases a;cases b;simp_all
instance:DecidableEq Cond:=λa b=>decidable_of_iff (a.Kind=b.Kind/\a.Pattern=b.Pattern/\a.Left=b.Left/\a.Right=b.Right) (by cases a;cases b;simp)
structure Action where
  Kind:Int
  Pattern:Pattern
instance:Inhabited Action:=⟨⟨default,default⟩⟩
theorem Action.mk_eq{a b:Action}(d:a.Kind=b.Kind)(c:a.Pattern=b.Pattern):a=b:=by cases a;cases b;simp_all
instance:DecidableEq Action:=λa b=>decidable_of_iff (a.Kind=b.Kind/\a.Pattern=b.Pattern) (by cases a;cases b;simp)
structure Rule where
  Name:ByteArray
  Priority:Int
  If:List Cond
  Then:List Action
instance:Inhabited Rule:=⟨⟨default,default,default,default⟩⟩
theorem Rule.mk_eq{a b:Rule}(d:a.Name=b.Name)(c:a.Priority=b.Priority)(f:a.If=b.If)(e:a.Then=b.Then):a=b:=by cases a;cases b;simp_all
instance:DecidableEq Rule:=λa b=>decidable_of_iff (a.Name=b.Name/\a.Priority=b.Priority/\a.If=b.If/\a.Then=b.Then) (by cases a;cases b;simp)
structure Stamp where
  Fact:Fact
  Time:Int
instance:Inhabited Stamp:=⟨⟨default,default⟩⟩
theorem Stamp.mk_eq{a b:Stamp}(c:a.Fact=b.Fact)(d:a.Time=b.Time):a=b:=by cases a;cases b;simp_all
instance:DecidableEq Stamp:=λa b=>decidable_of_iff (a.Fact=b.Fact/\a.Time=b.Time) (by cases a;cases b;simp)
structure Firing where
  Rule:ByteArray
  Times:List Int
instance:Inhabited Firing:=⟨⟨default,default⟩⟩
theorem Firing.mk_eq{a b:Firing}(d:a.Rule=b.Rule)(c:a.Times=b.Times):a=b:=by cases a;cases b;simp_all
instance:DecidableEq Firing:=λa b=>decidable_of_iff (a.Rule=b.Rule/\a.Times=b.Times) (by cases a;cases b;simp)
structure Engine where
  Rules:List Rule
  Memory:List Stamp
  Clock:Int
  Fired:List Firing
  Halted:Bool
  Log:List Event
instance:Inhabited Engine:=⟨⟨default,default,default,default,default,default⟩⟩
theorem Engine.mk_eq{a b:Engine}(e:a.Rules=b.Rules)(c:a.Memory=b.Memory)(f:a.Clock=b.Clock)(g:a.Fired=b.Fired)(d:a.Halted=b.Halted)(h:a.Log=b.Log):a=b:=by cases a;cases b;simp_all
instance:DecidableEq Engine:=λa b=>decidable_of_iff (a.Rules=b.Rules/\a.Memory=b.Memory/\a.Clock=b.Clock/\a.Fired=b.Fired/\a.Halted=b.Halted/\a.Log=b.Log) (by cases a;cases b;simp)
structure Match where
  Rule:ByteArray
  Facts:List Fact
  Binding:List Pair
instance:Inhabited Match:=⟨⟨default,default,default⟩⟩
theorem Match.mk_eq{a b:Match}(e:a.Rule=b.Rule)(d:a.Facts=b.Facts)(c:a.Binding=b.Binding):a=b:=by cases a;cases b;simp_all
instance:DecidableEq Match:=λa b=>decidable_of_iff (a.Rule=b.Rule/\a.Facts=b.Facts/\a.Binding=b.Binding) (by cases a;cases b;simp)
structure Token where
  Facts:List Fact
  Binding:List Pair
instance:Inhabited Token:=⟨⟨default,default⟩⟩
theorem Token.mk_eq{a b:Token}(d:a.Facts=b.Facts)(c:a.Binding=b.Binding):a=b:=by cases a;cases b;simp_all
instance:DecidableEq Token:=λa b=>decidable_of_iff (a.Facts=b.Facts/\a.Binding=b.Binding) (by cases a;cases b;simp)
structure Choice where
  Match:Match
  Priority:Int
  Times:List Int
  Specific:Int
  Order:Int
instance:Inhabited Choice:=⟨⟨default,default,default,default,default⟩⟩
theorem Choice.mk_eq{a b:Choice}(e:a.Match=b.Match)(c:a.Priority=b.Priority)(f:a.Times=b.Times)(d:a.Specific=b.Specific)(g:a.Order=b.Order):a=b:=by cases a;cases b;simp_all
instance:DecidableEq Choice:=λa b=>decidable_of_iff (a.Match=b.Match/\a.Priority=b.Priority/\a.Times=b.Times/\a.Specific=b.Specific/\a.Order=b.Order) (by cases a;cases b;simp)
end Go.Sy
