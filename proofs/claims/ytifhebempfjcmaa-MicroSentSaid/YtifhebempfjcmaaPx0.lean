-- Printed by this session's own pp.py (wip/tool) out of the translation.
import Derived.Test.YtifhebempfjcmaaProg
import Derived.Below
import Derived.Deep.Draws
import Derived.Deep.AppendLies
import Derived.Maps.AppendAt
import Derived.OwnWalk
import Derived.Laws.BytesArg
import Derived.Laws.MakeOwn
import Derived.Laws.OwnMore
import Derived.Deep.OwnRows
import Derived.Tactics
import Derived.Lib.ConvBytes
import Derived.Laws.Slices
import Derived.WalkKit
import Derived.KernelRfl
import Derived.RowKit3
import Derived.Deep.LoopGhost
import Derived.Deep.QuietTactic
import Derived.BigQuiet
import Derived.WideLaws
import Derived.Deep.DeepCutAuto
import Derived.Deep.CutBlock
import Derived.Deep.RegionHeld3
import Derived.Laws.Rows
import Derived.Lib.AppendStr
import Derived.ArgAppend
import Derived.Laws.IdiomCopy
import Derived.OrdersHeld
import Derived.Laws.BitsLemmas
import Derived.RowKit
import Derived.Test.YtifhebempfjcmaaMine
import Derived.Test.YtifhebempfjcmaaWd
namespace Go.Proofs.Ytifhebempfjcmaa.P
open Go.RowKit Go.Proofs.YtifhebempfjcmaaW.PrintWords Go.Proofs.YtifhebempfjcmaaW.PrintLast Go.Proofs.YtifhebempfjcmaaW.PrintMore Go.Proofs.Ytifhebempfjcmaa.Mine
attribute [local go_sem] max2_int min2_int max_two min_two max_three min_three max_four min_four   -- for this text's walks alone
set_option linter.unusedVariables false
set_option linter.unusedSimpArgs false



def errW : Option Int → Value
  | none => .nilIface
  | some c => .iface 0 (.int .i64 c)
theorem errW_none : errW none = .nilIface := rfl
theorem errW_some (c : Int) : errW (some c) = .iface 0 (.int .i64 c) := rfl

theorem ext45 (x y z : Int) (h : z ≤ 1) (w : World) : (callFunc 45 #[.int .u64 x, .int .u64 y, .int .u64 z]).run Try.prog w = .ok (.value (.tuple #[.int .u64 (addLo x y z), .int .u64 (addHi x y z)])) w := by
  rw [run_callFunc_extern Try.func45 (by kernel_rfl) (by kernel_rfl) (by kernel_rfl) (e := add64Entry) (by kernel_rfl), run_add64_ x y z h]
  rfl

theorem ext46 (x y z : Int) (h : z ≤ 1) (w : World) : (callFunc 46 #[.int .u64 x, .int .u64 y, .int .u64 z]).run Try.prog w = .ok (.value (.tuple #[.int .u64 (subLo x y z), .int .u64 (subHi x y z)])) w := by
  rw [run_callFunc_extern Try.func46 (by kernel_rfl) (by kernel_rfl) (by kernel_rfl) (e := sub64Entry) (by kernel_rfl), run_sub64_ x y z h]
  rfl

-- the values' own types

end Go.Proofs.Ytifhebempfjcmaa.P
