/- The table of tens out of what a row lists. -/
import Derived.Test.YtioahngbfdfcaaaGreatDoorKRow0
import Derived.Test.YtioahngbfdfcaaaGreatDoorKFm
import Derived.Stop.LaidErr
set_option linter.unusedVariables false
namespace Go.Proofs.YtioahngbfdfcaaaGreatDoor.World
open Go Go.RowKit
theorem tab_eq : (Rows.laid_internal_strconv_uint64pow10 : DataW Unit) = Lib.tabData .u64 Lib.pow10Tab := by kernel_rfl
theorem tens {W : World} {x y : String × DataW Unit} {rest : List (String × DataW Unit)} (h : laidMet Tryz.prog (x :: y :: ("internal/strconv.uint64pow10", Rows.laid_internal_strconv_uint64pow10) :: rest) W) : Tens W := by
  have h2 := h.tail.tail
  rw [tab_eq] at h2
  exact Lib.tabIs_of_head (rest := rest) gTab (t := 115) (e := 52) (n := 20) (by kernel_rfl) (by kernel_rfl) (by kernel_rfl) (by kernel_rfl) (by kernel_rfl) h2
end Go.Proofs.YtioahngbfdfcaaaGreatDoor.World
