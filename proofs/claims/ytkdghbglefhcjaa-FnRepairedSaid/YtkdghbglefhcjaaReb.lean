/-
  Drawn results become borrowed: a new base world.
  Conditions: none.
-/
import Derived.Test.YtkdghbglefhcjaaTypes
import Derived.Test.YtkdghbglefhcjaaOwn2
import Derived.Test.YtkdghbglefhcjaaCur
namespace Go.Sy
open Go Go.RowKit
section
variable {P : Program} {N : Nat} {w0 : World} {H : List Chunk} {L : Fm} {Q : Exit → Act → World → Prop} {o : Oper} {d : Nat} {K : Act → World → Prop}
theorem D_base {α : Type} [Gd α] {cs : List Value} {y : α} (k : ∀ wb, Ex w0 wb → Gd.rd wb cs y → D N wb [] L K) : D N w0 (ov cs y :: H) L K :=
  fun a w hf hs => k w hs.bel (rd_own (k := 0) hs rfl) a w hf (St.start w)
theorem D_base2 {α β : Type} [Gd α] [Gd β] {c1 c2 : List Value} {x : α} {y : β} (k : ∀ wb, Ex w0 wb → Gd.rd wb c1 x → Gd.rd wb c2 y → D N wb [] L K) : D N w0 (ov c1 x :: ov c2 y :: H) L K :=
  fun a w hf hs => k w hs.bel (rd_own (k := 0) hs rfl) (rd_own (k := 1) hs rfl) a w hf (St.start w)
theorem D_base3 {α β γ : Type} [Gd α] [Gd β] [Gd γ] {c1 c2 c3 : List Value} {x : α} {y : β} {z : γ} (k : ∀ wb, Ex w0 wb → Gd.rd wb c1 x → Gd.rd wb c2 y → Gd.rd wb c3 z → D N wb [] L K) : D N w0 (ov c1 x :: ov c2 y :: ov c3 z :: H) L K :=
  fun a w hf hs => k w hs.bel (rd_own (k := 0) hs rfl) (rd_own (k := 1) hs rfl) (rd_own (k := 2) hs rfl) a w hf (St.start w)
end
end Go.Sy
