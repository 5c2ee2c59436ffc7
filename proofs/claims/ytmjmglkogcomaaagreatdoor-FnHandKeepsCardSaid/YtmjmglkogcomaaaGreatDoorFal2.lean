/-
  Contracts of functions of the program, walked (printed by a program of ours).
  Conditions: those that each theorem states.
-/
import Derived.Test.YtmjmglkogcomaaaGreatDoorProg
import Derived.Test.YtmjmglkogcomaaaGreatDoorChs
set_option linter.unusedVariables false
set_option maxRecDepth 20000
namespace Go.Sy.Fal2
open Go Go.RowKit Go.Proofs Go.Sy
theorem rows:SZ Tryz.prog 231 "Len" =some (#[⟨233,0,true⟩],none)/\SZ Tryz.prog 231 "Swap" =some (#[⟨233,0,true⟩],none):=⟨by kernel_rfl,by kernel_rfl⟩
noncomputable def fR:Field:=match Tryz.prog.underlying 233 with|some (.struct fs)=>fs.getD 0 default|_=>default
theorem uS:Tryz.prog.underlying 233=some (.struct #[fR]):=by kernel_rfl
theorem tR:fR.type=213:=by kernel_rfl
theorem O0{w:World}{a:Value}{l:(List Int)}(b:Gd.rd w [a] l)(hl:l.length<=1048576):Cy 52 [a] w (HH w (l:List Int)):=by
 have d:=rM b;refine enter 5 Tryz.func52 Y Y Y<|Sr<|Pe Y<|Sr<|p1 Y<|CG (α:=Int)<|li Y (PW (α:=Int) (ys:=l) C1s vH Y Y Y Y Y Y (λw' c=>rA c b) (by simp;omega) (by simp;omega) λv2=>?_);refine Pe Y<|Ct (FV Y Y λw' c=>A7 (k:=0) c Y ?_);show([])++l=l;simp
theorem dS{w:World}{a:Value}{l:(List Int)}(b:Gd.rd w [a] l)(hl:l.length<=1048576):Cy 98 [a] w (HH w (l:List Int)):=by
 have d:=rM b;refine enter 6 Tryz.func98 Y Y Y<|Sr<|Pe Y<|Sr<|li Y (FL (α:=Int) C1s Y Y Y λv2=>?_);refine p1 Y<|li Y (PW (α:=Int) (ys:=l) C1s vH Y Y Y Y Y Y (λw' c=>rA c b) (by simp;omega) (by simp;omega) λv3=>?_);refine Pe Y<|Ct (FV Y Y λw' c=>A7 (k:=0) c Y ?_);show([])++l=l;simp
end Go.Sy.Fal2
