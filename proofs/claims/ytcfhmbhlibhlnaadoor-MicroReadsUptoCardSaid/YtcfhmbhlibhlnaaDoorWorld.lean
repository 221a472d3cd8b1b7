/- What the rows give of a world (strconv's table of tens), and a world that meets what they list. -/
import Derived.Test.YtcfhmbhlibhlnaaDoorRows
import Derived.Test.YtcfhmbhlibhlnaaDoorMine
import Derived.Test.YtcfhmbhlibhlnaaDoorShelf
import Derived.LaidLaws
import Derived.Lib.LaidTab
import Derived.Stop.LaidErr
namespace Go.Proofs.YtcfhmbhlibhlnaaDoor.World
open Go Go.RowKit
example : Tryd.prog.globalNamed "internal/strconv.uint64pow10" = some 0 := by kernel_rfl
example : Tryd.prog.globalNamed "math/bits.deBruijn32tab" = some 2 := by kernel_rfl
example : Tryd.prog.globalNamed "math/bits.deBruijn64tab" = some 3 := by kernel_rfl
theorem gTab : Tryd.prog.globalNamed "internal/strconv.uint64pow10" = some 0 := by kernel_rfl
theorem tab_eq : (Rows.laid_internal_strconv_uint64pow10 : DataW Unit) = Lib.tabData .u64 Lib.pow10Tab := by kernel_rfl
theorem wf {W : World} (_ : W.ShapedOpen Tryd.prog) (h : laidMetH Tryd.prog [("math/bits.deBruijn32tab", Rows.laid_math_bits_deBruijn32tab), ("math/bits.deBruijn64tab", Rows.laid_math_bits_deBruijn64tab), ("internal/strconv.uint64pow10", Rows.laid_internal_strconv_uint64pow10)] W) : Mine.WF W := by
  have h1 : laidMet Tryd.prog [("math/bits.deBruijn32tab", Rows.laid_math_bits_deBruijn32tab), ("math/bits.deBruijn64tab", Rows.laid_math_bits_deBruijn64tab), ("internal/strconv.uint64pow10", Rows.laid_internal_strconv_uint64pow10)] W := h
  have h2 := h1.tail.tail
  rw [tab_eq] at h2
  exact Lib.tabIs_of_head (rest := []) gTab (t := 153) (e := 22) (n := 20) (by kernel_rfl) Tryd.underlying153 Tryd.underlying22 (by kernel_rfl) (by kernel_rfl) h2
def leafV : DataW Unit → Value
  | .lit (.int k n) => .int k n
  | .lit (.bool b) => .bool b
  | _ => .bool false
def leaves1 : DataW Unit → List Value
  | .agg l => l.map leafV
  | d => [leafV d]
def putCells (cs : List Value) : Obj → Obj
  | .cells _ t frozen => .cells cs.toArray t frozen
  | o => o
noncomputable def laidWorld (os : Os) : World :=
  { World.holding Tryd.prog os ⟨#[], #[], []⟩ with
    heap := (((World.holding Tryd.prog os ⟨#[], #[], []⟩).heap.modify 0 (putCells (leaves1 Rows.laid_internal_strconv_uint64pow10))).modify 2 (putCells (leaves1 Rows.laid_math_bits_deBruijn32tab))).modify 3 (putCells (leaves1 Rows.laid_math_bits_deBruijn64tab)) }
end Go.Proofs.YtcfhmbhlibhlnaaDoor.World
