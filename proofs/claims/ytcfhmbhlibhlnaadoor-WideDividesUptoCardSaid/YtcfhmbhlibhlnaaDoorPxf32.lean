-- Printed by this session's own pp.py (wip/tool) out of the translation.
import Derived.Test.YtcfhmbhlibhlnaaDoorPx0
import Derived.Test.YtcfhmbhlibhlnaaDoorPxe24
import Derived.Test.YtcfhmbhlibhlnaaDoorPxf64
import Derived.Test.YtcfhmbhlibhlnaaDoorPxf65
import Derived.Test.YtcfhmbhlibhlnaaDoorPxf72
namespace Go.Proofs.YtcfhmbhlibhlnaaDoor.P
open Go.RowKit Go.Proofs.YtcfhmbhlibhlnaaDoorW.PrintWords Go.Proofs.YtcfhmbhlibhlnaaDoorW.PrintLast Go.Proofs.YtcfhmbhlibhlnaaDoorW.PrintMore Go.Proofs.YtcfhmbhlibhlnaaDoor.Mine
attribute [local go_sem] ext71 ext79 eqA61 eqA62
attribute [local go_sem] max2_int min2_int max_two min_two max_three min_three max_four min_four   -- for this text's walks alone
set_option linter.unusedVariables false
set_option linter.unusedSimpArgs false

attribute [local go_sem high] eqA24
/-! ### wide_Quo: function 32 -/
def wide_Quo.f (k : Nat) (a0_0 : Int) (a0_1 : Int) (a1_0 : Int) (a1_1 : Int) : Option (Int × Int × Int × Int × Int) := if (a1_0 == 0 && (a1_1 == 0)) = true then (some (0, 0, 0, 0, 11)) else ((wide_amount.f a0_0 a0_1).bind fun bt294 => ((wide_amount.f a1_0 a1_1).bind fun bt296 => ((wide_divided.f k bt294.1 bt294.2 bt296.1 bt296.2).bind fun bt298 => ((wide_signed.f k bt298.1 bt298.2.1 ((decide (a0_0 < 0)) != (decide (a1_0 < 0)))).bind fun bt304 => (if bt304.2.2 = 0 then ((wide_signed.f k bt298.2.2.1 bt298.2.2.2 (decide (a0_0 < 0))).bind fun bt308 => (some (bt304.1, bt304.2.1, bt308.1, bt308.2.1, 0))) else (some (0, 0, 0, 0, bt304.2.2)))))))
theorem wide_Quo.mono : ∀ a0 a1 a2 a3 k, LeO (wide_Quo.f k a0 a1 a2 a3) (wide_Quo.f (k + 1) a0 a1 a2 a3) := by
 intro a0 a1 a2 a3 k
 unfold wide_Quo.f
 repeat' first
  | (with_reducible exact wide_divided.mono _ _ _ _ _)
  | (with_reducible exact wide_signed.mono _ _ _ _)
  | (with_reducible exact LeO.refl _)
  | (with_reducible exact LeO.none _)
  | (with_reducible refine LeO.ite ?_ ?_)
  | (with_reducible refine LeO.bind ?_ (fun _ => ?_))
  | exact wide_divided.mono _ _ _ _ _
  | exact wide_signed.mono _ _ _ _
  | exact LeO.none _
  | refine LeO.ite ?_ ?_
  | refine LeO.bind ?_ (fun _ => ?_)
def wide_Quo.T3 : Bool × List (List Nat × List Nat) := (true, [([], []), ([0], [0]), ([], []), ([2, 1], [2]), ([1, 3, 3], [1, 3]), ([4], [4]), ([5], [5]), ([5], [5]), ([], []), ([], []), ([8, 6, 4, 0, 1, 2, 3, 4, 5, 6, 8, 9], [6, 8]), ([9, 7, 10, 0, 1, 2, 3, 4, 5, 6, 7, 8, 9, 10], [7, 9])])
def wide_Quo.B3 : List Nat := [0, 1, 0, 7, 15, 31, 63, 63, 0, 0, 895, 2047]
theorem wide_Quo.tab3 : rtab .any (opsOf Tryd.f32 3) = wide_Quo.T3 := by kernel_rfl
theorem wide_Quo.bits3 : waitsOk wide_Quo.T3.2 wide_Quo.B3 = true := by kernel_rfl

end Go.Proofs.YtcfhmbhlibhlnaaDoor.P
