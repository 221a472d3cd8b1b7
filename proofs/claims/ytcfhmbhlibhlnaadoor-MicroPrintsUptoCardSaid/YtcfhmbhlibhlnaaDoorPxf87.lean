-- Printed by this session's own pp.py (wip/tool) out of the translation.
import Derived.Test.YtcfhmbhlibhlnaaDoorPx0
namespace Go.Proofs.YtcfhmbhlibhlnaaDoor.P
open Go.RowKit Go.Proofs.YtcfhmbhlibhlnaaDoorW.PrintWords Go.Proofs.YtcfhmbhlibhlnaaDoorW.PrintLast Go.Proofs.YtcfhmbhlibhlnaaDoorW.PrintMore Go.Proofs.YtcfhmbhlibhlnaaDoor.Mine
attribute [local go_sem] ext71 ext79 eqA61 eqA62
attribute [local go_sem] max2_int min2_int max_two min_two max_three min_three max_four min_four   -- for this text's walks alone
set_option linter.unusedVariables false
set_option linter.unusedSimpArgs false

/-! ### strconv_FormatInt: function 87 -/
def strconv_FormatInt.f (a0 : Int) (a1 : Int) : Option (ByteArray) := if -9223372036854775808 ≤ a0 ∧ a0 ≤ 9223372036854775807 ∧ a1 = 10 then some ⟨(Lib.itoa a0).toArray⟩ else none
theorem strconv_FormatInt.calls (a0 : Int) (a1 : Int) (r : ByteArray) (w : World) (hT : Aside0 (WF w)) (h : strconv_FormatInt.f a0 a1 = some r) :
    Calls Tryd.prog 87 #[.int .i64 a0, .int .i64 a1] w fun e w' => e = .returned (.string r) ∧ Below w.heap.size w w' := by
  unfold strconv_FormatInt.f at h
  by_cases c : -9223372036854775808 ≤ a0 ∧ a0 ≤ 9223372036854775807 ∧ a1 = 10
  · rw [if_pos c] at h
    obtain rfl := Option.some.inj h
    obtain ⟨h1, h2, rfl⟩ := c
    refine (Tryd.strconv_FormatInt_10 a0 h1 h2 w hT.out).mono ?_
    rintro e w' ⟨rfl, k, os, rfl⟩
    exact ⟨rfl, below_grown w k os⟩
  · rw [if_neg c] at h; cases h

end Go.Proofs.YtcfhmbhlibhlnaaDoor.P
