/- What the rows give of a world (MaxLen's cell), and a world that meets what they list. -/
import Derived.Test.YtifhebempfjcmaaDoorRows
import Derived.Test.YtifhebempfjcmaaDoorMine
import Derived.Test.YtifhebempfjcmaaDoorShelf
import Derived.LaidLaws
namespace Go.Proofs.YtifhebempfjcmaaDoor.World
open Go Go.RowKit
theorem wf {W : World} {l : List (String × DataW Unit)} (hs : W.ShapedOpen Tryd.prog) (_ : laidMetH Tryd.prog l W) : Mine.WF W := Tryd.laysM146.s1_3 W hs
def leafV : DataW Unit → Value
  | .lit (.int k n) => .int k n
  | .lit (.bool b) => .bool b
  | _ => .bool false
def leaves1 : DataW Unit → List Value
  | .agg l => l.map leafV
  | d => [leafV d]
def leaves2 : DataW Unit → List Value
  | .agg l => l.flatMap leaves1
  | d => [leafV d]
def putCells (cs : List Value) : Obj → Obj
  | .cells _ t frozen => .cells cs.toArray t frozen
  | o => o
noncomputable def laidWorld (os : Os) : World :=
  { World.holding Tryd.prog os ⟨#[], #[], []⟩ with
    heap := ((World.holding Tryd.prog os ⟨#[], #[], []⟩).heap.modify 1 (putCells (leaves1 Rows.laid_unicode_utf8_first))).modify 2 (putCells (leaves2 (Rows.laid_unicode_utf8_acceptRanges (H := Unit)))) }
example : Tryd.prog.globalNamed "unicode/utf8.first" = some 1 := by kernel_rfl
example : Tryd.prog.globalNamed "unicode/utf8.acceptRanges" = some 2 := by kernel_rfl
end Go.Proofs.YtifhebempfjcmaaDoor.World
