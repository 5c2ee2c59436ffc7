/-
  Proved: whatever the input, the law FnHandKeeps returns true, and the input reads as it did.
  Conditions: none.
-/
import Derived.Test.YtmjmglkogcomaaaGreatDoorRdb
import Derived.Test.YtmjmglkogcomaaaGreatDoorLawi
import Derived.Test.YtmjmglkogcomaaaGreatDoorCards
import Derived.Test.YtmjmglkogcomaaaGreatDoorTie
import Derived.Deep.DeepHandedRow
import Derived.Lib.LaidTab
import Derived.Stop.LaidErr
namespace Go.Proofs.YtmjmglkogcomaaaGreatDoor
open Go Go.Sy Go.ChangeShapes Go.WideShapes Go.ChangeAt Go.RowKit
namespace fnHandKeeps
theorem own:ownKnob Tryz.prog.godebug=none:=by kernel_rfl
theorem A7k:Tryz.prog.globalNamed "internal/strconv.uint64pow10" =some 3:=by kernel_rfl
theorem vE:(Tryz.prog.globals[3]?).map (·.type)=some 309:=by kernel_rfl
theorem A7l:Tryz.prog.underlying 309=some (.array 20 260):=by kernel_rfl
theorem A7m:Tryz.prog.underlying 260=some (.int .u64):=by kernel_rfl
theorem A2t:Tryz.prog.cellsOf 309=20:=by kernel_rfl
theorem A6C:Tryz.prog.cellsOf 260=1:=by kernel_rfl
theorem gE:Tryz.prog.globalNamed "strconv.ErrSyntax" =some 1:=by kernel_rfl
theorem A2u:(Tryz.prog.globals[1]?).map (·.type)=some 199:=by kernel_rfl
noncomputable def msE:Array (String × TypeId):=match Tryz.prog.underlying 199 with|some (.interface ms)=>ms|_=> #[]
theorem uE:Tryz.prog.underlying 199=some (.interface msE):=by kernel_rfl
theorem uP:Tryz.prog.underlying 292=some (.pointer 294):=by kernel_rfl
noncomputable def fE:Field:=match Tryz.prog.underlying 294 with|some (.struct fs)=>fs.getD 0 default|_=>default
theorem uS:Tryz.prog.underlying 294=some (.struct #[fE]):=by kernel_rfl
theorem A7n:Tryz.prog.underlying 9=some .string:=by kernel_rfl
theorem cS1:Tryz.prog.cellsOf 294=1:=by kernel_rfl
theorem cS2:Tryz.prog.cellsOf 9=1:=by kernel_rfl
theorem A1G: "*" ++ "errors.errorString" = "*errors.errorString" :=by decide
theorem A7o(u:TypeId)(h:Tryz.prog.typeName? 3 u=some "*errors.errorString"):u=292:=
 typeName_ptr_named (nm:= "errors.errorString") (by rw[A1G];kernel_rfl) (by kernel_rfl) (by decide) u (by rw[A1G];exact h)
theorem A6D{W:World}(h:laidMetH Tryz.prog Rows.fnHandKeepsRow.laid W):∃tp p,W.var? Tryz.prog "strconv.ErrSyntax" =some #[.iface tp p]:=by
 obtain⟨a,s,b,_⟩:=laid_sentinel (laidMet.tail (laidMet.tail (laidMet.tail (laidMet.tail h)))) gE A2u uE A7o uP uS (by kernel_rfl) (by kernel_rfl) A7n cS1 cS2;exact⟨_,_,b⟩
theorem A6E{W:World}(h:laidMetH Tryz.prog Rows.fnHandKeepsRow.laid W):Go.Sy.Fmt1.Tb W:=
 ⟨Lib.tabIs_of_head (k:= .u64) (zs:=Lib.pow10Tab) A7k vE A7l A7m A6C A2t (laidMet.tail (laidMet.tail h)),A6D h⟩
set_option maxRecDepth 100000 in
theorem vF(H:Type)(enc:TypeId × Value->H)(W:World)(base:Nat)(args:Array Value)(ds gs:List (DataW H))(before:List MemPlace)
  (b:∀(j:Nat) t v,Tryz.f3.params[j]?=some t->args[j]?=some v->Value.okWide Tryz.prog W .any base t v)
  (hW:DataW.Whole enc Tryz.prog Tryz.f3.params.toList Rows.fnHandKeepsSpec.vars false W args.toList ds gs before) (i:laidMetH Tryz.prog Rows.fnHandKeepsRow.laid W):
  Calls Tryz.prog 3 args W λe h=>∃v,e= .returned v/\Rows.fnHandKeepsSpec.post enc Tryz.prog Tryz.f3 false true false false W args v h:=by
 have a:∀(j:Nat) t v,Tryz.f3.params[j]?=some t->args[j]?=some v->Value.okWide Tryz.prog W .any base t v:=b;have c:=hW;obtain⟨p,q,f,z,rfl,u,r⟩:=hW;have g:DataW.TrodAll enc Tryz.prog W 0 (λ_=>true) true Tryz.f3.params.toList args.toList ds p:=f;rw[Tryz.params3] at g a;obtain⟨v0,k,l,m,w,x,d,rfl,rfl,t0,n⟩:=trodAll_cons g;obtain⟨rfl,rfl,rfl⟩:=trodAll_nil n;obtain rfl:args= #[v0]:=by cases args;simp_all
 obtain⟨a0,s,y⟩:=B0q A5G (e:=5) (by kernel_rfl) (a 0 22 v0 rfl rfl) t0;refine(Go.Sy.Lawi.laws_FnHandKeeps W v0 a0 s (A6E i)).mono λe h ⟨he,hx⟩=>?_
 subst he;exact⟨_,rfl,oZ laidOut (by decide+kernel) rfl rfl (tb:=4) (by kernel_rfl) (λH ds o=>by
  obtain⟨l,rfl⟩:=A5D o;exact⟨rfl,rfl,rfl⟩) c hx⟩
noncomputable def low:Nat:=(World.holding Tryz.prog default ⟨#[], #[],[]⟩).heap.size
noncomputable def R4(os:Os):World:={World.holding Tryz.prog os ⟨#[.cells #[.string ⟨#[118,97,108,117,101,32,111,117,116,32,111,102,32,114,97,110,103,101]⟩] 294, .cells #[.string ⟨#[105,110,118,97,108,105,100,32,115,121,110,116,97,120]⟩] 294], #[],[]⟩ with heap:=((((((World.holding Tryz.prog os ⟨#[.cells #[.string ⟨#[118,97,108,117,101,32,111,117,116,32,111,102,32,114,97,110,103,101]⟩] 294, .cells #[.string ⟨#[105,110,118,97,108,105,100,32,115,121,110,116,97,120]⟩] 294], #[],[]⟩).heap.modify 4 λ
   | .cells _ t frozen=> .cells #[.int .u8 0, .int .u8 1, .int .u8 28, .int .u8 2, .int .u8 29, .int .u8 14, .int .u8 24, .int .u8 3, .int .u8 30, .int .u8 22, .int .u8 20, .int .u8 15, .int .u8 25, .int .u8 17, .int .u8 4, .int .u8 8, .int .u8 31, .int .u8 27, .int .u8 13, .int .u8 23, .int .u8 21, .int .u8 19, .int .u8 16, .int .u8 7, .int .u8 26, .int .u8 12, .int .u8 18, .int .u8 6, .int .u8 11, .int .u8 5, .int .u8 10, .int .u8 9] t frozen
   |o=>o).modify 5 λ
   | .cells _ t frozen=> .cells #[.int .u8 0, .int .u8 1, .int .u8 56, .int .u8 2, .int .u8 57, .int .u8 49, .int .u8 28, .int .u8 3, .int .u8 61, .int .u8 58, .int .u8 42, .int .u8 50, .int .u8 38, .int .u8 29, .int .u8 17, .int .u8 4, .int .u8 62, .int .u8 47, .int .u8 59, .int .u8 36, .int .u8 45, .int .u8 43, .int .u8 51, .int .u8 22, .int .u8 53, .int .u8 39, .int .u8 33, .int .u8 30, .int .u8 24, .int .u8 18, .int .u8 12, .int .u8 5, .int .u8 63, .int .u8 55, .int .u8 48, .int .u8 27, .int .u8 60, .int .u8 41, .int .u8 37, .int .u8 16, .int .u8 46, .int .u8 35, .int .u8 44, .int .u8 21, .int .u8 52, .int .u8 32, .int .u8 23, .int .u8 11, .int .u8 54, .int .u8 26, .int .u8 40, .int .u8 15, .int .u8 34, .int .u8 20, .int .u8 31, .int .u8 10, .int .u8 25, .int .u8 14, .int .u8 19, .int .u8 9, .int .u8 13, .int .u8 8, .int .u8 7, .int .u8 6] t frozen
   |o=>o).modify 3 λ
   | .cells _ t frozen=> .cells #[.int .u64 1, .int .u64 10, .int .u64 100, .int .u64 1000, .int .u64 10000, .int .u64 100000, .int .u64 1000000, .int .u64 10000000, .int .u64 100000000, .int .u64 1000000000, .int .u64 10000000000, .int .u64 100000000000, .int .u64 1000000000000, .int .u64 10000000000000, .int .u64 100000000000000, .int .u64 1000000000000000, .int .u64 10000000000000000, .int .u64 100000000000000000, .int .u64 1000000000000000000, .int .u64 10000000000000000000] t frozen
   |o=>o).modify 2 λ
   | .cells _ t frozen=> .cells #[.iface 292 (.pointer (some ⟨low+0,0,none⟩))] t frozen
   |o=>o).modify 1 λ
   | .cells _ t frozen=> .cells #[.iface 292 (.pointer (some ⟨low+1,0,none⟩))] t frozen
   |o=>o)}
theorem vG(os:Os):laidMet Tryz.prog Rows.fnHandKeepsRow.laid ((R4 os).forCall (λ_ _=>0) ⟨#[], #[(.slice none 0 0)],[]⟩).memory:=
 laidMet_of_run' 8 (by kernel_rfl) (by kernel_rfl)
theorem reads(os:Os){H:Type}(enc:TypeId × Value->H):∃places,DataW.whole enc Tryz.prog ((R4 os).forCall (λ_ _=>0) ⟨#[], #[(.slice none 0 0)],[]⟩).memory Tryz.f3.params.toList Rows.fnHandKeepsSpec.vars false (#[(.slice none 0 0)]:Array Value).toList 8=some ([.nil],[],places):=
 ⟨[],by kernel_rfl⟩
set_option maxRecDepth 100000 in
theorem lifted(os:Os)(started:os.Started)(H:Type)(enc:TypeId × Value->H)(F:Stop.Interp):
  ReturnsInHanded {} Tryz.checked os 3 .any ((OpenSpec.ofChange Rows.fnHandKeepsSpec).preRow enc Tryz.prog Tryz.f3 Rows.fnHandKeepsRow.domain false Rows.fnHandKeepsRow.laid) (((OpenSpec.ofChange Rows.fnHandKeepsSpec).at F).post enc Tryz.prog Tryz.f3 false true false false):=by
 obtain⟨a,c⟩:=reads os enc;refine returnsInHanded_of_row (C:=Tryz.checked) (s:=OpenSpec.ofChange Rows.fnHandKeepsSpec) own started (by kernel_rfl) Tryz.func3
  (witness_row_at (enc:=enc) (C:=Tryz.checked) false (R4 os) #[(.slice none 0 0)] rfl (by kernel_rfl) (by kernel_rfl) (by kernel_rfl)
   (OpenSpec.preRow_of_cond 8 c (by kernel_rfl) (λk b=>by cases b) (by kernel_rfl) (vG os))) ?_
 intro W base args ds gs before hval hW _ _ _ hL _ _;exact vF H enc W base args ds gs before hval hW hL
theorem A7p:(Rows.fnHandKeepsRow.inPlace==Tryz.prog.inPlace 3)=true:=by kernel_rfl
theorem A7q:(Rows.fnHandKeepsRow.unfollowed==Tryz.prog.unfollowed 3)=true:=by kernel_rfl
theorem A7r:(Rows.fnHandKeepsRow.recurses==Tryz.prog.recurses 3)=true:=by kernel_rfl
theorem A7s:(Rows.fnHandKeepsRow.named==Tryz.prog.varsNamed 3)=true:=by kernel_rfl
theorem kPk:(Rows.fnHandKeepsRow.plainKeys==Tryz.prog.plainKeys)=true:=by kernel_rfl
theorem A2v:Tryz.prog.stopsHeard=true:=by kernel_rfl
theorem A7t:Tryz.prog.mayEnter=true:=by kernel_rfl
theorem A6F:(Rows.fnHandKeepsRow.lifted==Tryz.prog.liftsFinal)=true:=by kernel_rfl
theorem A6G:(Tryz.prog.make==some Rows.fnHandKeepsRow.make)=true:=by kernel_rfl
set_option maxRecDepth 100000 in
theorem closed:joinedFacts Tryz.prog 3 Tryz.f3 (OpenSpec.ofChange Rows.fnHandKeepsSpec).bare Rows.fnHandKeepsRow=true:=by
 unfold joinedFacts;simp only[Bool.and_eq_true];exact⟨⟨⟨⟨⟨⟨⟨⟨⟨⟨⟨⟨⟨⟨⟨⟨⟨⟨⟨⟨⟨⟨⟨⟨⟨⟨⟨⟨⟨⟨⟨by kernel_rfl,Go.Sy.laidOut⟩,by kernel_rfl⟩,by kernel_rfl⟩,by kernel_rfl⟩,by kernel_rfl⟩,by kernel_rfl⟩,by kernel_rfl⟩,by kernel_rfl⟩,A7p⟩,A7q⟩,A7r⟩,A7s⟩,by kernel_rfl⟩,by kernel_rfl⟩,by kernel_rfl⟩,by kernel_rfl⟩,by kernel_rfl⟩,by kernel_rfl⟩,by kernel_rfl⟩,by kernel_rfl⟩,by kernel_rfl⟩,kPk⟩,by kernel_rfl⟩,A2v⟩,A7t⟩,A6F⟩,A6G⟩,by kernel_rfl⟩,by kernel_rfl⟩,by kernel_rfl⟩,by kernel_rfl⟩
set_option maxRecDepth 100000 in
theorem said:Rows.FnHandKeepsSaid:=
 OpenClaim.holds_of_cond 3 Tryz.f3 rfl rfl rfl rfl rfl rfl rfl ⟨rfl,rfl,rfl,rfl,rfl⟩ rfl rfl rfl rfl rfl (by kernel_rfl) Tryz.func3 closed
  (of_decide_eq_true (by kernel_rfl)) (by unfold Func.isWrapper;rw[if_neg (by decide+kernel)];exact⟨rfl,rfl⟩)
  (λos a H enc _ F=>by rw[OpenClaim.pre_eq_preRow];exact lifted os a H enc F)
end fnHandKeeps
end Go.Proofs.YtmjmglkogcomaaaGreatDoor
