/-
  No cell of these rows narrows 'for every input' (looked for: loops, veiled, ifaces, maps, wideKeys, modest, calm, conditions, laid).
  DERIVED. THE GIVEN ROWS OF THIS SEAT. 10 by the template 'for every input the law returns true; each argument reads behind the call as it read before'; 0 by the template 'total and deterministic' (their statements: YtifhebempfjcmaaTotals.lean).
  GIVEN WITH THE SEED: the statements are not yours to turn. If you find one false, say at which input.
  Laid BY PROGRAM, IN A SANDBOX (cutbox-rows.mjs): the forced cells as the released guide's own fill.sh prints them over the translation a56787a8d631b182… (all of the seat's roots in one cut). By AI agents, Wed Nov 11 2026. No macro, syntax, notation, axiom, sorry.
-/
import Derived.Test.YtifhebempfjcmaaChecked
import GoSem.Claim
import GoSem.ClaimJoined
import GoSem.ClaimMapViews
import Derived.JoinedTies
import Derived.KernelRfl
namespace Go.Proofs.Ytifhebempfjcmaa
/- THE CELL 'sum', in the pinned program and in every row, IS THE sha256 OF THE DUMP (.gsa) THAT YtifhebempfjcmaaProg.lean LOADS. Nothing in Lean hashes anything: it is a label: what it is worth is what the hold of that sum in a sandbox is worth. -/
noncomputable def Try.pinned : Pinned := { name := "ytifhebempfjcmaa", sum := "a56787a8d631b1822d79d67a3115cf776453c66dc717c7e92bcd0478919bd62b", checked := Try.checked }
namespace Rows
def none {H : Type} : Left H := { results := [], args := [] }

/-- 'tumblerlaw02.MicroFits': WHATEVER THE INPUT: true; the input reads as it did. -/
def microFitsSpec : ChangeSpec := { name := "microFits", fn := fun _ => fun
  | [d] => { results := [.lit (.bool true)], args := [d] }
  | _ => none }
def microFitsRow : OpenClaim := { program := "ytifhebempfjcmaa", sum := "a56787a8d631b1822d79d67a3115cf776453c66dc717c7e92bcd0478919bd62b", func := "tumbler/tumblerlaw02.MicroFits", spec := "microFits", apart := false }
def MicroFitsSaid : Prop := microFitsRow.holds Try.pinned (OpenSpec.ofChange microFitsSpec)

/-- ITS FALSE NEIGHBOUR: 'it returns false'. Refute it at one input. -/
def microFitsWrong : ChangeSpec := { name := "microFits", fn := fun _ => fun
  | [d] => { results := [.lit (.bool false)], args := [d] }
  | _ => none }
def MicroFitsWrongFalsely : Prop := microFitsRow.holds Try.pinned (OpenSpec.ofChange microFitsWrong)

/-- 'tumblerlaw02.MicroShares': WHATEVER THE INPUT: true; the input reads as it did. -/
def microSharesSpec : ChangeSpec := { name := "microShares", fn := fun _ => fun
  | [d1, d2] => { results := [.lit (.bool true)], args := [d1, d2] }
  | _ => none }
def microSharesRow : OpenClaim := { program := "ytifhebempfjcmaa", sum := "a56787a8d631b1822d79d67a3115cf776453c66dc717c7e92bcd0478919bd62b", func := "tumbler/tumblerlaw02.MicroShares", spec := "microShares", inPlace := ["math/bits.Sub64"], apart := false }
def MicroSharesSaid : Prop := microSharesRow.holds Try.pinned (OpenSpec.ofChange microSharesSpec)

/-- ITS FALSE NEIGHBOUR: 'it returns false'. Refute it at one input. -/
def microSharesWrong : ChangeSpec := { name := "microShares", fn := fun _ => fun
  | [d1, d2] => { results := [.lit (.bool false)], args := [d1, d2] }
  | _ => none }
def MicroSharesWrongFalsely : Prop := microSharesRow.holds Try.pinned (OpenSpec.ofChange microSharesWrong)

/-- 'tumblerlaw02.MicroRest': WHATEVER THE INPUT: true; the input reads as it did. -/
def microRestSpec : ChangeSpec := { name := "microRest", fn := fun _ => fun
  | [d1, d2] => { results := [.lit (.bool true)], args := [d1, d2] }
  | _ => none }
def microRestRow : OpenClaim := { program := "ytifhebempfjcmaa", sum := "a56787a8d631b1822d79d67a3115cf776453c66dc717c7e92bcd0478919bd62b", func := "tumbler/tumblerlaw02.MicroRest", spec := "microRest", inPlace := ["math/bits.Sub64"], apart := false }
def MicroRestSaid : Prop := microRestRow.holds Try.pinned (OpenSpec.ofChange microRestSpec)

/-- ITS FALSE NEIGHBOUR: 'it returns false'. Refute it at one input. -/
def microRestWrong : ChangeSpec := { name := "microRest", fn := fun _ => fun
  | [d1, d2] => { results := [.lit (.bool false)], args := [d1, d2] }
  | _ => none }
def MicroRestWrongFalsely : Prop := microRestRow.holds Try.pinned (OpenSpec.ofChange microRestWrong)

/-- 'tumblerlaw02.MicroRounds': WHATEVER THE INPUT: true; the input reads as it did. -/
def microRoundsSpec : ChangeSpec := { name := "microRounds", fn := fun _ => fun
  | [d1, d2] => { results := [.lit (.bool true)], args := [d1, d2] }
  | _ => none }
def microRoundsRow : OpenClaim := { program := "ytifhebempfjcmaa", sum := "a56787a8d631b1822d79d67a3115cf776453c66dc717c7e92bcd0478919bd62b", func := "tumbler/tumblerlaw02.MicroRounds", spec := "microRounds", inPlace := ["math/bits.Sub64", "math/bits.Add64"], apart := false }
def MicroRoundsSaid : Prop := microRoundsRow.holds Try.pinned (OpenSpec.ofChange microRoundsSpec)

/-- ITS FALSE NEIGHBOUR: 'it returns false'. Refute it at one input. -/
def microRoundsWrong : ChangeSpec := { name := "microRounds", fn := fun _ => fun
  | [d1, d2] => { results := [.lit (.bool false)], args := [d1, d2] }
  | _ => none }
def MicroRoundsWrongFalsely : Prop := microRoundsRow.holds Try.pinned (OpenSpec.ofChange microRoundsWrong)

/-- 'tumblerlaw02.MicroNear': WHATEVER THE INPUT: true; the input reads as it did. -/
def microNearSpec : ChangeSpec := { name := "microNear", fn := fun _ => fun
  | [d1, d2] => { results := [.lit (.bool true)], args := [d1, d2] }
  | _ => none }
def microNearRow : OpenClaim := { program := "ytifhebempfjcmaa", sum := "a56787a8d631b1822d79d67a3115cf776453c66dc717c7e92bcd0478919bd62b", func := "tumbler/tumblerlaw02.MicroNear", spec := "microNear", inPlace := ["math/bits.Sub64", "math/bits.Add64"], apart := false }
def MicroNearSaid : Prop := microNearRow.holds Try.pinned (OpenSpec.ofChange microNearSpec)

/-- ITS FALSE NEIGHBOUR: 'it returns false'. Refute it at one input. -/
def microNearWrong : ChangeSpec := { name := "microNear", fn := fun _ => fun
  | [d1, d2] => { results := [.lit (.bool false)], args := [d1, d2] }
  | _ => none }
def MicroNearWrongFalsely : Prop := microNearRow.holds Try.pinned (OpenSpec.ofChange microNearWrong)

/-- 'tumblerlaw02.MicroProducts': WHATEVER THE INPUT: true; the input reads as it did. -/
def microProductsSpec : ChangeSpec := { name := "microProducts", fn := fun _ => fun
  | [d1, d2] => { results := [.lit (.bool true)], args := [d1, d2] }
  | _ => none }
def microProductsRow : OpenClaim := { program := "ytifhebempfjcmaa", sum := "a56787a8d631b1822d79d67a3115cf776453c66dc717c7e92bcd0478919bd62b", func := "tumbler/tumblerlaw02.MicroProducts", spec := "microProducts", inPlace := ["math/bits.Sub64", "math/bits.Add64"], apart := false }
def MicroProductsSaid : Prop := microProductsRow.holds Try.pinned (OpenSpec.ofChange microProductsSpec)

/-- ITS FALSE NEIGHBOUR: 'it returns false'. Refute it at one input. -/
def microProductsWrong : ChangeSpec := { name := "microProducts", fn := fun _ => fun
  | [d1, d2] => { results := [.lit (.bool false)], args := [d1, d2] }
  | _ => none }
def MicroProductsWrongFalsely : Prop := microProductsRow.holds Try.pinned (OpenSpec.ofChange microProductsWrong)

/-- 'tumblerlaw02.MicroRatios': WHATEVER THE INPUT: true; the input reads as it did. -/
def microRatiosSpec : ChangeSpec := { name := "microRatios", fn := fun _ => fun
  | [d1, d2] => { results := [.lit (.bool true)], args := [d1, d2] }
  | _ => none }
def microRatiosRow : OpenClaim := { program := "ytifhebempfjcmaa", sum := "a56787a8d631b1822d79d67a3115cf776453c66dc717c7e92bcd0478919bd62b", func := "tumbler/tumblerlaw02.MicroRatios", spec := "microRatios", inPlace := ["math/bits.Sub64", "math/bits.Add64"], apart := false }
def MicroRatiosSaid : Prop := microRatiosRow.holds Try.pinned (OpenSpec.ofChange microRatiosSpec)

/-- ITS FALSE NEIGHBOUR: 'it returns false'. Refute it at one input. -/
def microRatiosWrong : ChangeSpec := { name := "microRatios", fn := fun _ => fun
  | [d1, d2] => { results := [.lit (.bool false)], args := [d1, d2] }
  | _ => none }
def MicroRatiosWrongFalsely : Prop := microRatiosRow.holds Try.pinned (OpenSpec.ofChange microRatiosWrong)

/-- 'tumblerlaw02.MicroSwaps': WHATEVER THE INPUT: true; the input reads as it did. -/
def microSwapsSpec : ChangeSpec := { name := "microSwaps", fn := fun _ => fun
  | [d1, d2] => { results := [.lit (.bool true)], args := [d1, d2] }
  | _ => none }
def microSwapsRow : OpenClaim := { program := "ytifhebempfjcmaa", sum := "a56787a8d631b1822d79d67a3115cf776453c66dc717c7e92bcd0478919bd62b", func := "tumbler/tumblerlaw02.MicroSwaps", spec := "microSwaps", inPlace := ["math/bits.Sub64", "math/bits.Add64"], apart := false }
def MicroSwapsSaid : Prop := microSwapsRow.holds Try.pinned (OpenSpec.ofChange microSwapsSpec)

/-- ITS FALSE NEIGHBOUR: 'it returns false'. Refute it at one input. -/
def microSwapsWrong : ChangeSpec := { name := "microSwaps", fn := fun _ => fun
  | [d1, d2] => { results := [.lit (.bool false)], args := [d1, d2] }
  | _ => none }
def MicroSwapsWrongFalsely : Prop := microSwapsRow.holds Try.pinned (OpenSpec.ofChange microSwapsWrong)

/-- 'tumblerlaw02.MicroScales': WHATEVER THE INPUT: true; the input reads as it did. -/
def microScalesSpec : ChangeSpec := { name := "microScales", fn := fun _ => fun
  | [d1, d2] => { results := [.lit (.bool true)], args := [d1, d2] }
  | _ => none }
def microScalesRow : OpenClaim := { program := "ytifhebempfjcmaa", sum := "a56787a8d631b1822d79d67a3115cf776453c66dc717c7e92bcd0478919bd62b", func := "tumbler/tumblerlaw02.MicroScales", spec := "microScales", inPlace := ["math/bits.Sub64", "math/bits.Add64"], apart := false }
def MicroScalesSaid : Prop := microScalesRow.holds Try.pinned (OpenSpec.ofChange microScalesSpec)

/-- ITS FALSE NEIGHBOUR: 'it returns false'. Refute it at one input. -/
def microScalesWrong : ChangeSpec := { name := "microScales", fn := fun _ => fun
  | [d1, d2] => { results := [.lit (.bool false)], args := [d1, d2] }
  | _ => none }
def MicroScalesWrongFalsely : Prop := microScalesRow.holds Try.pinned (OpenSpec.ofChange microScalesWrong)

/-- 'tumblerlaw02.MicroSent': WHATEVER THE INPUT: true; the input reads as it did. -/
def microSentSpec : ChangeSpec := { name := "microSent", fn := fun _ => fun
  | [d1, d2] => { results := [.lit (.bool true)], args := [d1, d2] }
  | _ => none }
def microSentRow : OpenClaim := { program := "ytifhebempfjcmaa", sum := "a56787a8d631b1822d79d67a3115cf776453c66dc717c7e92bcd0478919bd62b", func := "tumbler/tumblerlaw02.MicroSent", spec := "microSent", inPlace := ["math/bits.Sub64", "math/bits.Add64"], apart := false }
def MicroSentSaid : Prop := microSentRow.holds Try.pinned (OpenSpec.ofChange microSentSpec)

/-- ITS FALSE NEIGHBOUR: 'it returns false'. Refute it at one input. -/
def microSentWrong : ChangeSpec := { name := "microSent", fn := fun _ => fun
  | [d1, d2] => { results := [.lit (.bool false)], args := [d1, d2] }
  | _ => none }
def MicroSentWrongFalsely : Prop := microSentRow.holds Try.pinned (OpenSpec.ofChange microSentWrong)

/- THE SECOND FORM. 'bulk': how many values and letters a reading holds, each counted each time it is reached (what is shared counts as often as it is met; a slice's spare places count too). A statement '..UptoSaid' is the law's where the arguments, and the package variables that the reading takes, are together of bulk at most 1048576: NARROWER than '..Said'. Prove '..Said' where nothing that the law and all that it calls make is longer than what came in: it says more and counts as full. Else prove '..UptoSaid'. A law counts once. -/
mutual
def uptoBulk {H : Type} : DataW H → Nat
  | .lit (.string bytes) => bytes.length + 1
  | .lit _ => 1
  | .nil => 1
  | .ptr d => uptoBulk d + 1
  | .slice elems spare => uptoBulkAll elems + uptoBulkAll spare + 1
  | .agg parts => uptoBulkAll parts + 1
  | .iface _ d => uptoBulk d + 1
  | .map entries => uptoBulkEntries entries + 1
  | .held _ => 1
def uptoBulkAll {H : Type} : List (DataW H) → Nat
  | [] => 0
  | d :: r => uptoBulk d + uptoBulkAll r
def uptoBulkEntries {H : Type} : List (Lit × DataW H) → Nat
  | [] => 0
  | x :: r => uptoBulkEntry x + uptoBulkEntries r
def uptoBulkEntry {H : Type} : Lit × DataW H → Nat
  | (.string bytes, d) => bytes.length + uptoBulk d + 1
  | (_, d) => uptoBulk d + 1
 end
def uptoSmall : (H : Type) → List (DataW H) → Bool := fun _ ds => decide (uptoBulkAll ds ≤ 1048576)
def OpenSpec.upto (s : _root_.Go.ChangeSpec) : _root_.Go.OpenSpec := { _root_.Go.OpenSpec.ofChange s with cond := some uptoSmall }

/-- 'tumblerlaw02.MicroFits', WHERE WHAT IT READS IS OF BULK AT MOST 1048576: true; the input reads as it did. -/
def microFitsUptoRow : OpenClaim := { program := "ytifhebempfjcmaa", sum := "a56787a8d631b1822d79d67a3115cf776453c66dc717c7e92bcd0478919bd62b", func := "tumbler/tumblerlaw02.MicroFits", spec := "microFits", apart := false, narrowed := true }
def MicroFitsUptoSaid : Prop := microFitsUptoRow.holds Try.pinned (OpenSpec.upto microFitsSpec)

/-- 'tumblerlaw02.MicroShares', WHERE WHAT IT READS IS OF BULK AT MOST 1048576: true; the input reads as it did. -/
def microSharesUptoRow : OpenClaim := { program := "ytifhebempfjcmaa", sum := "a56787a8d631b1822d79d67a3115cf776453c66dc717c7e92bcd0478919bd62b", func := "tumbler/tumblerlaw02.MicroShares", spec := "microShares", inPlace := ["math/bits.Sub64"], apart := false, narrowed := true }
def MicroSharesUptoSaid : Prop := microSharesUptoRow.holds Try.pinned (OpenSpec.upto microSharesSpec)

/-- 'tumblerlaw02.MicroRest', WHERE WHAT IT READS IS OF BULK AT MOST 1048576: true; the input reads as it did. -/
def microRestUptoRow : OpenClaim := { program := "ytifhebempfjcmaa", sum := "a56787a8d631b1822d79d67a3115cf776453c66dc717c7e92bcd0478919bd62b", func := "tumbler/tumblerlaw02.MicroRest", spec := "microRest", inPlace := ["math/bits.Sub64"], apart := false, narrowed := true }
def MicroRestUptoSaid : Prop := microRestUptoRow.holds Try.pinned (OpenSpec.upto microRestSpec)

/-- 'tumblerlaw02.MicroRounds', WHERE WHAT IT READS IS OF BULK AT MOST 1048576: true; the input reads as it did. -/
def microRoundsUptoRow : OpenClaim := { program := "ytifhebempfjcmaa", sum := "a56787a8d631b1822d79d67a3115cf776453c66dc717c7e92bcd0478919bd62b", func := "tumbler/tumblerlaw02.MicroRounds", spec := "microRounds", inPlace := ["math/bits.Sub64", "math/bits.Add64"], apart := false, narrowed := true }
def MicroRoundsUptoSaid : Prop := microRoundsUptoRow.holds Try.pinned (OpenSpec.upto microRoundsSpec)

/-- 'tumblerlaw02.MicroNear', WHERE WHAT IT READS IS OF BULK AT MOST 1048576: true; the input reads as it did. -/
def microNearUptoRow : OpenClaim := { program := "ytifhebempfjcmaa", sum := "a56787a8d631b1822d79d67a3115cf776453c66dc717c7e92bcd0478919bd62b", func := "tumbler/tumblerlaw02.MicroNear", spec := "microNear", inPlace := ["math/bits.Sub64", "math/bits.Add64"], apart := false, narrowed := true }
def MicroNearUptoSaid : Prop := microNearUptoRow.holds Try.pinned (OpenSpec.upto microNearSpec)

/-- 'tumblerlaw02.MicroProducts', WHERE WHAT IT READS IS OF BULK AT MOST 1048576: true; the input reads as it did. -/
def microProductsUptoRow : OpenClaim := { program := "ytifhebempfjcmaa", sum := "a56787a8d631b1822d79d67a3115cf776453c66dc717c7e92bcd0478919bd62b", func := "tumbler/tumblerlaw02.MicroProducts", spec := "microProducts", inPlace := ["math/bits.Sub64", "math/bits.Add64"], apart := false, narrowed := true }
def MicroProductsUptoSaid : Prop := microProductsUptoRow.holds Try.pinned (OpenSpec.upto microProductsSpec)

/-- 'tumblerlaw02.MicroRatios', WHERE WHAT IT READS IS OF BULK AT MOST 1048576: true; the input reads as it did. -/
def microRatiosUptoRow : OpenClaim := { program := "ytifhebempfjcmaa", sum := "a56787a8d631b1822d79d67a3115cf776453c66dc717c7e92bcd0478919bd62b", func := "tumbler/tumblerlaw02.MicroRatios", spec := "microRatios", inPlace := ["math/bits.Sub64", "math/bits.Add64"], apart := false, narrowed := true }
def MicroRatiosUptoSaid : Prop := microRatiosUptoRow.holds Try.pinned (OpenSpec.upto microRatiosSpec)

/-- 'tumblerlaw02.MicroSwaps', WHERE WHAT IT READS IS OF BULK AT MOST 1048576: true; the input reads as it did. -/
def microSwapsUptoRow : OpenClaim := { program := "ytifhebempfjcmaa", sum := "a56787a8d631b1822d79d67a3115cf776453c66dc717c7e92bcd0478919bd62b", func := "tumbler/tumblerlaw02.MicroSwaps", spec := "microSwaps", inPlace := ["math/bits.Sub64", "math/bits.Add64"], apart := false, narrowed := true }
def MicroSwapsUptoSaid : Prop := microSwapsUptoRow.holds Try.pinned (OpenSpec.upto microSwapsSpec)

/-- 'tumblerlaw02.MicroScales', WHERE WHAT IT READS IS OF BULK AT MOST 1048576: true; the input reads as it did. -/
def microScalesUptoRow : OpenClaim := { program := "ytifhebempfjcmaa", sum := "a56787a8d631b1822d79d67a3115cf776453c66dc717c7e92bcd0478919bd62b", func := "tumbler/tumblerlaw02.MicroScales", spec := "microScales", inPlace := ["math/bits.Sub64", "math/bits.Add64"], apart := false, narrowed := true }
def MicroScalesUptoSaid : Prop := microScalesUptoRow.holds Try.pinned (OpenSpec.upto microScalesSpec)

/-- 'tumblerlaw02.MicroSent', WHERE WHAT IT READS IS OF BULK AT MOST 1048576: true; the input reads as it did. -/
def microSentUptoRow : OpenClaim := { program := "ytifhebempfjcmaa", sum := "a56787a8d631b1822d79d67a3115cf776453c66dc717c7e92bcd0478919bd62b", func := "tumbler/tumblerlaw02.MicroSent", spec := "microSent", inPlace := ["math/bits.Sub64", "math/bits.Add64"], apart := false, narrowed := true }
def MicroSentUptoSaid : Prop := microSentUptoRow.holds Try.pinned (OpenSpec.upto microSentSpec)

end Rows
end Go.Proofs.Ytifhebempfjcmaa
