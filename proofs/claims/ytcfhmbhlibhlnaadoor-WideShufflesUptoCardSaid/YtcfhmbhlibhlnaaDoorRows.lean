/-
  NARROWER THAN 'FOR EVERY INPUT', by the rows' own cells (each row's printed sentence says how): WidePrints: laid · WideMuls: laid · WideOrders: laid · WideQuos: laid · WideSums: laid · WideRoots: laid · WideAdds: laid · WideLaws: laid · WideShuffles: laid · WideSigns: laid · WideSquares: laid · WideDivides: laid · WideParses: laid · WideBack: laid · MicroShows: laid · MicroPrints: laid · MicroWideBack: laid · MicroBack: laid · MicroParses: laid · MicroReads: laid · MicroShort: laid · MicroSame: laid.
  DERIVED. THE GIVEN ROWS OF THIS SEAT. 22 by the template 'for every input the law returns true; each argument reads behind the call as it read before'; 0 by the template 'total and deterministic' (their statements: YtcfhmbhlibhlnaaDoorTotals.lean).
  GIVEN WITH THE SEED: the statements are not yours to turn. If you find one false, say at which input.
  Laid BY PROGRAM, IN A SANDBOX (cutbox-rows.mjs): the forced cells as the released guide's own fill.sh prints them over the translation 88fedea7c81e8200… (all of the seat's roots in one cut). By AI agents, Wed Nov 11 2026. No macro, syntax, notation, axiom, sorry.
-/
import Derived.Test.YtcfhmbhlibhlnaaDoorChecked
import GoSem.Claim
import GoSem.ClaimJoined
import GoSem.ClaimMapViews
import Derived.JoinedTies
import Derived.KernelRfl
namespace Go.Proofs.YtcfhmbhlibhlnaaDoor
/- THE CELL 'sum', in the pinned program and in every row, IS THE sha256 OF THE DUMP (.gsa) THAT YtcfhmbhlibhlnaaDoorProg.lean LOADS. Nothing in Lean hashes anything: it is a label: what it is worth is what the hold of that sum in a sandbox is worth. -/
noncomputable def Tryd.pinned : Pinned := { name := "ytcfhmbhlibhlnaadoor", sum := "88fedea7c81e8200822b06352ba0883e89a5c1fd39064136b93cdbf89d948df5", checked := Tryd.checked }
namespace Rows
def none {H : Type} : Left H := { results := [], args := [] }

/- WHAT THE LISTED PACKAGE-LEVEL VARIABLES READ AS WHEN THE CALL BEGINS. Each datum BY PROGRAM (the guide's laid-datum.mjs) off the statement by which the dump's own 'gosem.cut.vars' lays the variable. In a bare row this is a premise. The card (YtcfhmbhlibhlnaaDoorCards.lean) ties it to the program's text. -/
def laid_math_bits_deBruijn32tab {H : Type} : DataW H := .agg [.lit (.int .u8 0), .lit (.int .u8 1), .lit (.int .u8 28), .lit (.int .u8 2), .lit (.int .u8 29), .lit (.int .u8 14), .lit (.int .u8 24), .lit (.int .u8 3), .lit (.int .u8 30), .lit (.int .u8 22), .lit (.int .u8 20), .lit (.int .u8 15), .lit (.int .u8 25), .lit (.int .u8 17), .lit (.int .u8 4), .lit (.int .u8 8), .lit (.int .u8 31), .lit (.int .u8 27), .lit (.int .u8 13), .lit (.int .u8 23), .lit (.int .u8 21), .lit (.int .u8 19), .lit (.int .u8 16), .lit (.int .u8 7), .lit (.int .u8 26), .lit (.int .u8 12), .lit (.int .u8 18), .lit (.int .u8 6), .lit (.int .u8 11), .lit (.int .u8 5), .lit (.int .u8 10), .lit (.int .u8 9)]
def laid_math_bits_deBruijn64tab {H : Type} : DataW H := .agg [.lit (.int .u8 0), .lit (.int .u8 1), .lit (.int .u8 56), .lit (.int .u8 2), .lit (.int .u8 57), .lit (.int .u8 49), .lit (.int .u8 28), .lit (.int .u8 3), .lit (.int .u8 61), .lit (.int .u8 58), .lit (.int .u8 42), .lit (.int .u8 50), .lit (.int .u8 38), .lit (.int .u8 29), .lit (.int .u8 17), .lit (.int .u8 4), .lit (.int .u8 62), .lit (.int .u8 47), .lit (.int .u8 59), .lit (.int .u8 36), .lit (.int .u8 45), .lit (.int .u8 43), .lit (.int .u8 51), .lit (.int .u8 22), .lit (.int .u8 53), .lit (.int .u8 39), .lit (.int .u8 33), .lit (.int .u8 30), .lit (.int .u8 24), .lit (.int .u8 18), .lit (.int .u8 12), .lit (.int .u8 5), .lit (.int .u8 63), .lit (.int .u8 55), .lit (.int .u8 48), .lit (.int .u8 27), .lit (.int .u8 60), .lit (.int .u8 41), .lit (.int .u8 37), .lit (.int .u8 16), .lit (.int .u8 46), .lit (.int .u8 35), .lit (.int .u8 44), .lit (.int .u8 21), .lit (.int .u8 52), .lit (.int .u8 32), .lit (.int .u8 23), .lit (.int .u8 11), .lit (.int .u8 54), .lit (.int .u8 26), .lit (.int .u8 40), .lit (.int .u8 15), .lit (.int .u8 34), .lit (.int .u8 20), .lit (.int .u8 31), .lit (.int .u8 10), .lit (.int .u8 25), .lit (.int .u8 14), .lit (.int .u8 19), .lit (.int .u8 9), .lit (.int .u8 13), .lit (.int .u8 8), .lit (.int .u8 7), .lit (.int .u8 6)]
def laid_internal_strconv_uint64pow10 {H : Type} : DataW H := .agg [.lit (.int .u64 1), .lit (.int .u64 10), .lit (.int .u64 100), .lit (.int .u64 1000), .lit (.int .u64 10000), .lit (.int .u64 100000), .lit (.int .u64 1000000), .lit (.int .u64 10000000), .lit (.int .u64 100000000), .lit (.int .u64 1000000000), .lit (.int .u64 10000000000), .lit (.int .u64 100000000000), .lit (.int .u64 1000000000000), .lit (.int .u64 10000000000000), .lit (.int .u64 100000000000000), .lit (.int .u64 1000000000000000), .lit (.int .u64 10000000000000000), .lit (.int .u64 100000000000000000), .lit (.int .u64 1000000000000000000), .lit (.int .u64 10000000000000000000)]

/-- 'tumblerlaw01.WidePrints': WHATEVER THE INPUT: true; the input reads as it did. -/
def widePrintsSpec : ChangeSpec := { name := "widePrints", fn := fun _ => fun
  | [d] => { results := [.lit (.bool true)], args := [d] }
  | _ => none }
def widePrintsRow : OpenClaim := { program := "ytcfhmbhlibhlnaadoor", sum := "88fedea7c81e8200822b06352ba0883e89a5c1fd39064136b93cdbf89d948df5", func := "tumbler/tumblerlaw01.WidePrints", spec := "widePrints", inPlace := ["math/bits.Sub64", "internal/abi.NoEscape", "internal/bytealg.MakeNoZero"], named := ["internal/strconv.uint64pow10", "math/bits.deBruijn32tab", "math/bits.deBruijn64tab"], apart := false, laid := [("math/bits.deBruijn32tab", laid_math_bits_deBruijn32tab), ("math/bits.deBruijn64tab", laid_math_bits_deBruijn64tab), ("internal/strconv.uint64pow10", laid_internal_strconv_uint64pow10)] }
def WidePrintsSaid : Prop := widePrintsRow.holds Tryd.pinned (OpenSpec.ofChange widePrintsSpec)

/-- ITS FALSE NEIGHBOUR: 'it returns false'. Refute it at one input. -/
def widePrintsWrong : ChangeSpec := { name := "widePrints", fn := fun _ => fun
  | [d] => { results := [.lit (.bool false)], args := [d] }
  | _ => none }
def WidePrintsWrongFalsely : Prop := widePrintsRow.holds Tryd.pinned (OpenSpec.ofChange widePrintsWrong)

/-- 'tumblerlaw01.WideMuls': WHATEVER THE INPUT: true; the input reads as it did. -/
def wideMulsSpec : ChangeSpec := { name := "wideMuls", fn := fun _ => fun
  | [d1, d2] => { results := [.lit (.bool true)], args := [d1, d2] }
  | _ => none }
def wideMulsRow : OpenClaim := { program := "ytcfhmbhlibhlnaadoor", sum := "88fedea7c81e8200822b06352ba0883e89a5c1fd39064136b93cdbf89d948df5", func := "tumbler/tumblerlaw01.WideMuls", spec := "wideMuls", inPlace := ["math/bits.Sub64", "math/bits.Add64", "internal/abi.NoEscape", "internal/bytealg.MakeNoZero"], named := ["internal/strconv.uint64pow10", "math/bits.deBruijn32tab", "math/bits.deBruijn64tab"], apart := false, laid := [("math/bits.deBruijn32tab", laid_math_bits_deBruijn32tab), ("math/bits.deBruijn64tab", laid_math_bits_deBruijn64tab), ("internal/strconv.uint64pow10", laid_internal_strconv_uint64pow10)] }
def WideMulsSaid : Prop := wideMulsRow.holds Tryd.pinned (OpenSpec.ofChange wideMulsSpec)

/-- ITS FALSE NEIGHBOUR: 'it returns false'. Refute it at one input. -/
def wideMulsWrong : ChangeSpec := { name := "wideMuls", fn := fun _ => fun
  | [d1, d2] => { results := [.lit (.bool false)], args := [d1, d2] }
  | _ => none }
def WideMulsWrongFalsely : Prop := wideMulsRow.holds Tryd.pinned (OpenSpec.ofChange wideMulsWrong)

/-- 'tumblerlaw01.WideOrders': WHATEVER THE INPUT: true; the input reads as it did. -/
def wideOrdersSpec : ChangeSpec := { name := "wideOrders", fn := fun _ => fun
  | [d1, d2, d3] => { results := [.lit (.bool true)], args := [d1, d2, d3] }
  | _ => none }
def wideOrdersRow : OpenClaim := { program := "ytcfhmbhlibhlnaadoor", sum := "88fedea7c81e8200822b06352ba0883e89a5c1fd39064136b93cdbf89d948df5", func := "tumbler/tumblerlaw01.WideOrders", spec := "wideOrders", inPlace := ["math/bits.Add64", "math/bits.Sub64", "internal/abi.NoEscape", "internal/bytealg.MakeNoZero"], named := ["internal/strconv.uint64pow10", "math/bits.deBruijn32tab", "math/bits.deBruijn64tab"], apart := false, laid := [("math/bits.deBruijn32tab", laid_math_bits_deBruijn32tab), ("math/bits.deBruijn64tab", laid_math_bits_deBruijn64tab), ("internal/strconv.uint64pow10", laid_internal_strconv_uint64pow10)] }
def WideOrdersSaid : Prop := wideOrdersRow.holds Tryd.pinned (OpenSpec.ofChange wideOrdersSpec)

/-- ITS FALSE NEIGHBOUR: 'it returns false'. Refute it at one input. -/
def wideOrdersWrong : ChangeSpec := { name := "wideOrders", fn := fun _ => fun
  | [d1, d2, d3] => { results := [.lit (.bool false)], args := [d1, d2, d3] }
  | _ => none }
def WideOrdersWrongFalsely : Prop := wideOrdersRow.holds Tryd.pinned (OpenSpec.ofChange wideOrdersWrong)

/-- 'tumblerlaw01.WideQuos': WHATEVER THE INPUT: true; the input reads as it did. -/
def wideQuosSpec : ChangeSpec := { name := "wideQuos", fn := fun _ => fun
  | [d1, d2] => { results := [.lit (.bool true)], args := [d1, d2] }
  | _ => none }
def wideQuosRow : OpenClaim := { program := "ytcfhmbhlibhlnaadoor", sum := "88fedea7c81e8200822b06352ba0883e89a5c1fd39064136b93cdbf89d948df5", func := "tumbler/tumblerlaw01.WideQuos", spec := "wideQuos", inPlace := ["math/bits.Sub64", "math/bits.Add64", "internal/abi.NoEscape", "internal/bytealg.MakeNoZero"], named := ["internal/strconv.uint64pow10", "math/bits.deBruijn32tab", "math/bits.deBruijn64tab"], apart := false, laid := [("math/bits.deBruijn32tab", laid_math_bits_deBruijn32tab), ("math/bits.deBruijn64tab", laid_math_bits_deBruijn64tab), ("internal/strconv.uint64pow10", laid_internal_strconv_uint64pow10)] }
def WideQuosSaid : Prop := wideQuosRow.holds Tryd.pinned (OpenSpec.ofChange wideQuosSpec)

/-- ITS FALSE NEIGHBOUR: 'it returns false'. Refute it at one input. -/
def wideQuosWrong : ChangeSpec := { name := "wideQuos", fn := fun _ => fun
  | [d1, d2] => { results := [.lit (.bool false)], args := [d1, d2] }
  | _ => none }
def WideQuosWrongFalsely : Prop := wideQuosRow.holds Tryd.pinned (OpenSpec.ofChange wideQuosWrong)

/-- 'tumblerlaw01.WideSums': WHATEVER THE INPUT: true; the input reads as it did. -/
def wideSumsSpec : ChangeSpec := { name := "wideSums", fn := fun _ => fun
  | [d] => { results := [.lit (.bool true)], args := [d] }
  | _ => none }
def wideSumsRow : OpenClaim := { program := "ytcfhmbhlibhlnaadoor", sum := "88fedea7c81e8200822b06352ba0883e89a5c1fd39064136b93cdbf89d948df5", func := "tumbler/tumblerlaw01.WideSums", spec := "wideSums", inPlace := ["math/bits.Add64", "math/bits.Sub64", "internal/abi.NoEscape", "internal/bytealg.MakeNoZero"], named := ["internal/strconv.uint64pow10", "math/bits.deBruijn32tab", "math/bits.deBruijn64tab"], apart := false, laid := [("math/bits.deBruijn32tab", laid_math_bits_deBruijn32tab), ("math/bits.deBruijn64tab", laid_math_bits_deBruijn64tab), ("internal/strconv.uint64pow10", laid_internal_strconv_uint64pow10)] }
def WideSumsSaid : Prop := wideSumsRow.holds Tryd.pinned (OpenSpec.ofChange wideSumsSpec)

/-- ITS FALSE NEIGHBOUR: 'it returns false'. Refute it at one input. -/
def wideSumsWrong : ChangeSpec := { name := "wideSums", fn := fun _ => fun
  | [d] => { results := [.lit (.bool false)], args := [d] }
  | _ => none }
def WideSumsWrongFalsely : Prop := wideSumsRow.holds Tryd.pinned (OpenSpec.ofChange wideSumsWrong)

/-- 'tumblerlaw01.WideRoots': WHATEVER THE INPUT: true; the input reads as it did. -/
def wideRootsSpec : ChangeSpec := { name := "wideRoots", fn := fun _ => fun
  | [d] => { results := [.lit (.bool true)], args := [d] }
  | _ => none }
def wideRootsRow : OpenClaim := { program := "ytcfhmbhlibhlnaadoor", sum := "88fedea7c81e8200822b06352ba0883e89a5c1fd39064136b93cdbf89d948df5", func := "tumbler/tumblerlaw01.WideRoots", spec := "wideRoots", inPlace := ["math/bits.Sub64", "math/bits.Add64", "internal/abi.NoEscape", "internal/bytealg.MakeNoZero"], named := ["internal/strconv.uint64pow10", "math/bits.deBruijn32tab", "math/bits.deBruijn64tab"], apart := false, laid := [("math/bits.deBruijn32tab", laid_math_bits_deBruijn32tab), ("math/bits.deBruijn64tab", laid_math_bits_deBruijn64tab), ("internal/strconv.uint64pow10", laid_internal_strconv_uint64pow10)] }
def WideRootsSaid : Prop := wideRootsRow.holds Tryd.pinned (OpenSpec.ofChange wideRootsSpec)

/-- ITS FALSE NEIGHBOUR: 'it returns false'. Refute it at one input. -/
def wideRootsWrong : ChangeSpec := { name := "wideRoots", fn := fun _ => fun
  | [d] => { results := [.lit (.bool false)], args := [d] }
  | _ => none }
def WideRootsWrongFalsely : Prop := wideRootsRow.holds Tryd.pinned (OpenSpec.ofChange wideRootsWrong)

/-- 'tumblerlaw01.WideAdds': WHATEVER THE INPUT: true; the input reads as it did. -/
def wideAddsSpec : ChangeSpec := { name := "wideAdds", fn := fun _ => fun
  | [d1, d2] => { results := [.lit (.bool true)], args := [d1, d2] }
  | _ => none }
def wideAddsRow : OpenClaim := { program := "ytcfhmbhlibhlnaadoor", sum := "88fedea7c81e8200822b06352ba0883e89a5c1fd39064136b93cdbf89d948df5", func := "tumbler/tumblerlaw01.WideAdds", spec := "wideAdds", inPlace := ["math/bits.Add64", "math/bits.Sub64", "internal/abi.NoEscape", "internal/bytealg.MakeNoZero"], named := ["internal/strconv.uint64pow10", "math/bits.deBruijn32tab", "math/bits.deBruijn64tab"], apart := false, laid := [("math/bits.deBruijn32tab", laid_math_bits_deBruijn32tab), ("math/bits.deBruijn64tab", laid_math_bits_deBruijn64tab), ("internal/strconv.uint64pow10", laid_internal_strconv_uint64pow10)] }
def WideAddsSaid : Prop := wideAddsRow.holds Tryd.pinned (OpenSpec.ofChange wideAddsSpec)

/-- ITS FALSE NEIGHBOUR: 'it returns false'. Refute it at one input. -/
def wideAddsWrong : ChangeSpec := { name := "wideAdds", fn := fun _ => fun
  | [d1, d2] => { results := [.lit (.bool false)], args := [d1, d2] }
  | _ => none }
def WideAddsWrongFalsely : Prop := wideAddsRow.holds Tryd.pinned (OpenSpec.ofChange wideAddsWrong)

/-- 'tumblerlaw01.WideLaws': WHATEVER THE INPUT: true; the input reads as it did. -/
def wideLawsSpec : ChangeSpec := { name := "wideLaws", fn := fun _ => fun
  | [d1, d2, d3] => { results := [.lit (.bool true)], args := [d1, d2, d3] }
  | _ => none }
def wideLawsRow : OpenClaim := { program := "ytcfhmbhlibhlnaadoor", sum := "88fedea7c81e8200822b06352ba0883e89a5c1fd39064136b93cdbf89d948df5", func := "tumbler/tumblerlaw01.WideLaws", spec := "wideLaws", inPlace := ["math/bits.Sub64", "math/bits.Add64", "internal/abi.NoEscape", "internal/bytealg.MakeNoZero"], named := ["internal/strconv.uint64pow10", "math/bits.deBruijn32tab", "math/bits.deBruijn64tab"], apart := false, laid := [("math/bits.deBruijn32tab", laid_math_bits_deBruijn32tab), ("math/bits.deBruijn64tab", laid_math_bits_deBruijn64tab), ("internal/strconv.uint64pow10", laid_internal_strconv_uint64pow10)] }
def WideLawsSaid : Prop := wideLawsRow.holds Tryd.pinned (OpenSpec.ofChange wideLawsSpec)

/-- ITS FALSE NEIGHBOUR: 'it returns false'. Refute it at one input. -/
def wideLawsWrong : ChangeSpec := { name := "wideLaws", fn := fun _ => fun
  | [d1, d2, d3] => { results := [.lit (.bool false)], args := [d1, d2, d3] }
  | _ => none }
def WideLawsWrongFalsely : Prop := wideLawsRow.holds Tryd.pinned (OpenSpec.ofChange wideLawsWrong)

/-- 'tumblerlaw01.WideShuffles': WHATEVER THE INPUT: true; the input reads as it did. -/
def wideShufflesSpec : ChangeSpec := { name := "wideShuffles", fn := fun _ => fun
  | [d1, d2] => { results := [.lit (.bool true)], args := [d1, d2] }
  | _ => none }
def wideShufflesRow : OpenClaim := { program := "ytcfhmbhlibhlnaadoor", sum := "88fedea7c81e8200822b06352ba0883e89a5c1fd39064136b93cdbf89d948df5", func := "tumbler/tumblerlaw01.WideShuffles", spec := "wideShuffles", inPlace := ["math/bits.Sub64", "math/bits.Add64", "internal/abi.NoEscape", "internal/bytealg.MakeNoZero"], named := ["internal/strconv.uint64pow10", "math/bits.deBruijn32tab", "math/bits.deBruijn64tab"], apart := false, laid := [("math/bits.deBruijn32tab", laid_math_bits_deBruijn32tab), ("math/bits.deBruijn64tab", laid_math_bits_deBruijn64tab), ("internal/strconv.uint64pow10", laid_internal_strconv_uint64pow10)] }
def WideShufflesSaid : Prop := wideShufflesRow.holds Tryd.pinned (OpenSpec.ofChange wideShufflesSpec)

/-- ITS FALSE NEIGHBOUR: 'it returns false'. Refute it at one input. -/
def wideShufflesWrong : ChangeSpec := { name := "wideShuffles", fn := fun _ => fun
  | [d1, d2] => { results := [.lit (.bool false)], args := [d1, d2] }
  | _ => none }
def WideShufflesWrongFalsely : Prop := wideShufflesRow.holds Tryd.pinned (OpenSpec.ofChange wideShufflesWrong)

/-- 'tumblerlaw01.WideSigns': WHATEVER THE INPUT: true; the input reads as it did. -/
def wideSignsSpec : ChangeSpec := { name := "wideSigns", fn := fun _ => fun
  | [d1, d2, d3] => { results := [.lit (.bool true)], args := [d1, d2, d3] }
  | _ => none }
def wideSignsRow : OpenClaim := { program := "ytcfhmbhlibhlnaadoor", sum := "88fedea7c81e8200822b06352ba0883e89a5c1fd39064136b93cdbf89d948df5", func := "tumbler/tumblerlaw01.WideSigns", spec := "wideSigns", inPlace := ["math/bits.Sub64", "math/bits.Add64", "internal/abi.NoEscape", "internal/bytealg.MakeNoZero"], named := ["internal/strconv.uint64pow10", "math/bits.deBruijn32tab", "math/bits.deBruijn64tab"], apart := false, laid := [("math/bits.deBruijn32tab", laid_math_bits_deBruijn32tab), ("math/bits.deBruijn64tab", laid_math_bits_deBruijn64tab), ("internal/strconv.uint64pow10", laid_internal_strconv_uint64pow10)] }
def WideSignsSaid : Prop := wideSignsRow.holds Tryd.pinned (OpenSpec.ofChange wideSignsSpec)

/-- ITS FALSE NEIGHBOUR: 'it returns false'. Refute it at one input. -/
def wideSignsWrong : ChangeSpec := { name := "wideSigns", fn := fun _ => fun
  | [d1, d2, d3] => { results := [.lit (.bool false)], args := [d1, d2, d3] }
  | _ => none }
def WideSignsWrongFalsely : Prop := wideSignsRow.holds Tryd.pinned (OpenSpec.ofChange wideSignsWrong)

/-- 'tumblerlaw01.WideSquares': WHATEVER THE INPUT: true; the input reads as it did. -/
def wideSquaresSpec : ChangeSpec := { name := "wideSquares", fn := fun _ => fun
  | [d] => { results := [.lit (.bool true)], args := [d] }
  | _ => none }
def wideSquaresRow : OpenClaim := { program := "ytcfhmbhlibhlnaadoor", sum := "88fedea7c81e8200822b06352ba0883e89a5c1fd39064136b93cdbf89d948df5", func := "tumbler/tumblerlaw01.WideSquares", spec := "wideSquares", inPlace := ["math/bits.Sub64", "math/bits.Add64", "internal/abi.NoEscape", "internal/bytealg.MakeNoZero"], named := ["internal/strconv.uint64pow10", "math/bits.deBruijn32tab", "math/bits.deBruijn64tab"], apart := false, laid := [("math/bits.deBruijn32tab", laid_math_bits_deBruijn32tab), ("math/bits.deBruijn64tab", laid_math_bits_deBruijn64tab), ("internal/strconv.uint64pow10", laid_internal_strconv_uint64pow10)] }
def WideSquaresSaid : Prop := wideSquaresRow.holds Tryd.pinned (OpenSpec.ofChange wideSquaresSpec)

/-- ITS FALSE NEIGHBOUR: 'it returns false'. Refute it at one input. -/
def wideSquaresWrong : ChangeSpec := { name := "wideSquares", fn := fun _ => fun
  | [d] => { results := [.lit (.bool false)], args := [d] }
  | _ => none }
def WideSquaresWrongFalsely : Prop := wideSquaresRow.holds Tryd.pinned (OpenSpec.ofChange wideSquaresWrong)

/-- 'tumblerlaw01.WideDivides': WHATEVER THE INPUT: true; the input reads as it did. -/
def wideDividesSpec : ChangeSpec := { name := "wideDivides", fn := fun _ => fun
  | [d1, d2] => { results := [.lit (.bool true)], args := [d1, d2] }
  | _ => none }
def wideDividesRow : OpenClaim := { program := "ytcfhmbhlibhlnaadoor", sum := "88fedea7c81e8200822b06352ba0883e89a5c1fd39064136b93cdbf89d948df5", func := "tumbler/tumblerlaw01.WideDivides", spec := "wideDivides", inPlace := ["math/bits.Sub64", "math/bits.Add64", "internal/abi.NoEscape", "internal/bytealg.MakeNoZero"], named := ["internal/strconv.uint64pow10", "math/bits.deBruijn32tab", "math/bits.deBruijn64tab"], apart := false, laid := [("math/bits.deBruijn32tab", laid_math_bits_deBruijn32tab), ("math/bits.deBruijn64tab", laid_math_bits_deBruijn64tab), ("internal/strconv.uint64pow10", laid_internal_strconv_uint64pow10)] }
def WideDividesSaid : Prop := wideDividesRow.holds Tryd.pinned (OpenSpec.ofChange wideDividesSpec)

/-- ITS FALSE NEIGHBOUR: 'it returns false'. Refute it at one input. -/
def wideDividesWrong : ChangeSpec := { name := "wideDivides", fn := fun _ => fun
  | [d1, d2] => { results := [.lit (.bool false)], args := [d1, d2] }
  | _ => none }
def WideDividesWrongFalsely : Prop := wideDividesRow.holds Tryd.pinned (OpenSpec.ofChange wideDividesWrong)

/-- 'tumblerlaw01.WideParses': WHATEVER THE INPUT: true; the input reads as it did. -/
def wideParsesSpec : ChangeSpec := { name := "wideParses", fn := fun _ => fun
  | [d] => { results := [.lit (.bool true)], args := [d] }
  | _ => none }
def wideParsesRow : OpenClaim := { program := "ytcfhmbhlibhlnaadoor", sum := "88fedea7c81e8200822b06352ba0883e89a5c1fd39064136b93cdbf89d948df5", func := "tumbler/tumblerlaw01.WideParses", spec := "wideParses", inPlace := ["math/bits.Add64", "math/bits.Sub64", "internal/abi.NoEscape", "internal/bytealg.MakeNoZero"], named := ["internal/strconv.uint64pow10", "math/bits.deBruijn32tab", "math/bits.deBruijn64tab"], apart := false, laid := [("math/bits.deBruijn32tab", laid_math_bits_deBruijn32tab), ("math/bits.deBruijn64tab", laid_math_bits_deBruijn64tab), ("internal/strconv.uint64pow10", laid_internal_strconv_uint64pow10)] }
def WideParsesSaid : Prop := wideParsesRow.holds Tryd.pinned (OpenSpec.ofChange wideParsesSpec)

/-- ITS FALSE NEIGHBOUR: 'it returns false'. Refute it at one input. -/
def wideParsesWrong : ChangeSpec := { name := "wideParses", fn := fun _ => fun
  | [d] => { results := [.lit (.bool false)], args := [d] }
  | _ => none }
def WideParsesWrongFalsely : Prop := wideParsesRow.holds Tryd.pinned (OpenSpec.ofChange wideParsesWrong)

/-- 'tumblerlaw01.WideBack': WHATEVER THE INPUT: true; the input reads as it did. -/
def wideBackSpec : ChangeSpec := { name := "wideBack", fn := fun _ => fun
  | [d1, d2] => { results := [.lit (.bool true)], args := [d1, d2] }
  | _ => none }
def wideBackRow : OpenClaim := { program := "ytcfhmbhlibhlnaadoor", sum := "88fedea7c81e8200822b06352ba0883e89a5c1fd39064136b93cdbf89d948df5", func := "tumbler/tumblerlaw01.WideBack", spec := "wideBack", inPlace := ["math/bits.Sub64", "internal/abi.NoEscape", "internal/bytealg.MakeNoZero", "math/bits.Add64"], named := ["internal/strconv.uint64pow10", "math/bits.deBruijn32tab", "math/bits.deBruijn64tab"], apart := false, laid := [("math/bits.deBruijn32tab", laid_math_bits_deBruijn32tab), ("math/bits.deBruijn64tab", laid_math_bits_deBruijn64tab), ("internal/strconv.uint64pow10", laid_internal_strconv_uint64pow10)] }
def WideBackSaid : Prop := wideBackRow.holds Tryd.pinned (OpenSpec.ofChange wideBackSpec)

/-- ITS FALSE NEIGHBOUR: 'it returns false'. Refute it at one input. -/
def wideBackWrong : ChangeSpec := { name := "wideBack", fn := fun _ => fun
  | [d1, d2] => { results := [.lit (.bool false)], args := [d1, d2] }
  | _ => none }
def WideBackWrongFalsely : Prop := wideBackRow.holds Tryd.pinned (OpenSpec.ofChange wideBackWrong)

/-- 'tumblerlaw02.MicroShows': WHATEVER THE INPUT: true; the input reads as it did. -/
def microShowsSpec : ChangeSpec := { name := "microShows", fn := fun _ => fun
  | [d] => { results := [.lit (.bool true)], args := [d] }
  | _ => none }
def microShowsRow : OpenClaim := { program := "ytcfhmbhlibhlnaadoor", sum := "88fedea7c81e8200822b06352ba0883e89a5c1fd39064136b93cdbf89d948df5", func := "tumbler/tumblerlaw02.MicroShows", spec := "microShows", inPlace := ["math/bits.Sub64", "internal/abi.NoEscape", "internal/bytealg.MakeNoZero"], named := ["internal/strconv.uint64pow10", "math/bits.deBruijn32tab", "math/bits.deBruijn64tab"], apart := false, laid := [("math/bits.deBruijn32tab", laid_math_bits_deBruijn32tab), ("math/bits.deBruijn64tab", laid_math_bits_deBruijn64tab), ("internal/strconv.uint64pow10", laid_internal_strconv_uint64pow10)] }
def MicroShowsSaid : Prop := microShowsRow.holds Tryd.pinned (OpenSpec.ofChange microShowsSpec)

/-- ITS FALSE NEIGHBOUR: 'it returns false'. Refute it at one input. -/
def microShowsWrong : ChangeSpec := { name := "microShows", fn := fun _ => fun
  | [d] => { results := [.lit (.bool false)], args := [d] }
  | _ => none }
def MicroShowsWrongFalsely : Prop := microShowsRow.holds Tryd.pinned (OpenSpec.ofChange microShowsWrong)

/-- 'tumblerlaw02.MicroPrints': WHATEVER THE INPUT: true; the input reads as it did. -/
def microPrintsSpec : ChangeSpec := { name := "microPrints", fn := fun _ => fun
  | [d] => { results := [.lit (.bool true)], args := [d] }
  | _ => none }
def microPrintsRow : OpenClaim := { program := "ytcfhmbhlibhlnaadoor", sum := "88fedea7c81e8200822b06352ba0883e89a5c1fd39064136b93cdbf89d948df5", func := "tumbler/tumblerlaw02.MicroPrints", spec := "microPrints", inPlace := ["math/bits.Sub64", "internal/abi.NoEscape", "internal/bytealg.MakeNoZero"], named := ["internal/strconv.uint64pow10", "math/bits.deBruijn32tab", "math/bits.deBruijn64tab"], apart := false, laid := [("math/bits.deBruijn32tab", laid_math_bits_deBruijn32tab), ("math/bits.deBruijn64tab", laid_math_bits_deBruijn64tab), ("internal/strconv.uint64pow10", laid_internal_strconv_uint64pow10)] }
def MicroPrintsSaid : Prop := microPrintsRow.holds Tryd.pinned (OpenSpec.ofChange microPrintsSpec)

/-- ITS FALSE NEIGHBOUR: 'it returns false'. Refute it at one input. -/
def microPrintsWrong : ChangeSpec := { name := "microPrints", fn := fun _ => fun
  | [d] => { results := [.lit (.bool false)], args := [d] }
  | _ => none }
def MicroPrintsWrongFalsely : Prop := microPrintsRow.holds Tryd.pinned (OpenSpec.ofChange microPrintsWrong)

/-- 'tumblerlaw02.MicroWideBack': WHATEVER THE INPUT: true; the input reads as it did. -/
def microWideBackSpec : ChangeSpec := { name := "microWideBack", fn := fun _ => fun
  | [d] => { results := [.lit (.bool true)], args := [d] }
  | _ => none }
def microWideBackRow : OpenClaim := { program := "ytcfhmbhlibhlnaadoor", sum := "88fedea7c81e8200822b06352ba0883e89a5c1fd39064136b93cdbf89d948df5", func := "tumbler/tumblerlaw02.MicroWideBack", spec := "microWideBack", inPlace := ["math/bits.Sub64", "internal/abi.NoEscape", "internal/bytealg.MakeNoZero", "math/bits.Add64"], named := ["internal/strconv.uint64pow10", "math/bits.deBruijn32tab", "math/bits.deBruijn64tab"], apart := false, laid := [("math/bits.deBruijn32tab", laid_math_bits_deBruijn32tab), ("math/bits.deBruijn64tab", laid_math_bits_deBruijn64tab), ("internal/strconv.uint64pow10", laid_internal_strconv_uint64pow10)] }
def MicroWideBackSaid : Prop := microWideBackRow.holds Tryd.pinned (OpenSpec.ofChange microWideBackSpec)

/-- ITS FALSE NEIGHBOUR: 'it returns false'. Refute it at one input. -/
def microWideBackWrong : ChangeSpec := { name := "microWideBack", fn := fun _ => fun
  | [d] => { results := [.lit (.bool false)], args := [d] }
  | _ => none }
def MicroWideBackWrongFalsely : Prop := microWideBackRow.holds Tryd.pinned (OpenSpec.ofChange microWideBackWrong)

/-- 'tumblerlaw02.MicroBack': WHATEVER THE INPUT: true; the input reads as it did. -/
def microBackSpec : ChangeSpec := { name := "microBack", fn := fun _ => fun
  | [d] => { results := [.lit (.bool true)], args := [d] }
  | _ => none }
def microBackRow : OpenClaim := { program := "ytcfhmbhlibhlnaadoor", sum := "88fedea7c81e8200822b06352ba0883e89a5c1fd39064136b93cdbf89d948df5", func := "tumbler/tumblerlaw02.MicroBack", spec := "microBack", inPlace := ["math/bits.Sub64", "internal/abi.NoEscape", "internal/bytealg.MakeNoZero", "math/bits.Add64"], named := ["internal/strconv.uint64pow10", "math/bits.deBruijn32tab", "math/bits.deBruijn64tab"], apart := false, laid := [("math/bits.deBruijn32tab", laid_math_bits_deBruijn32tab), ("math/bits.deBruijn64tab", laid_math_bits_deBruijn64tab), ("internal/strconv.uint64pow10", laid_internal_strconv_uint64pow10)] }
def MicroBackSaid : Prop := microBackRow.holds Tryd.pinned (OpenSpec.ofChange microBackSpec)

/-- ITS FALSE NEIGHBOUR: 'it returns false'. Refute it at one input. -/
def microBackWrong : ChangeSpec := { name := "microBack", fn := fun _ => fun
  | [d] => { results := [.lit (.bool false)], args := [d] }
  | _ => none }
def MicroBackWrongFalsely : Prop := microBackRow.holds Tryd.pinned (OpenSpec.ofChange microBackWrong)

/-- 'tumblerlaw02.MicroParses': WHATEVER THE INPUT: true; the input reads as it did. -/
def microParsesSpec : ChangeSpec := { name := "microParses", fn := fun _ => fun
  | [d] => { results := [.lit (.bool true)], args := [d] }
  | _ => none }
def microParsesRow : OpenClaim := { program := "ytcfhmbhlibhlnaadoor", sum := "88fedea7c81e8200822b06352ba0883e89a5c1fd39064136b93cdbf89d948df5", func := "tumbler/tumblerlaw02.MicroParses", spec := "microParses", inPlace := ["math/bits.Sub64", "math/bits.Add64", "internal/abi.NoEscape", "internal/bytealg.MakeNoZero"], named := ["internal/strconv.uint64pow10", "math/bits.deBruijn32tab", "math/bits.deBruijn64tab"], apart := false, laid := [("math/bits.deBruijn32tab", laid_math_bits_deBruijn32tab), ("math/bits.deBruijn64tab", laid_math_bits_deBruijn64tab), ("internal/strconv.uint64pow10", laid_internal_strconv_uint64pow10)] }
def MicroParsesSaid : Prop := microParsesRow.holds Tryd.pinned (OpenSpec.ofChange microParsesSpec)

/-- ITS FALSE NEIGHBOUR: 'it returns false'. Refute it at one input. -/
def microParsesWrong : ChangeSpec := { name := "microParses", fn := fun _ => fun
  | [d] => { results := [.lit (.bool false)], args := [d] }
  | _ => none }
def MicroParsesWrongFalsely : Prop := microParsesRow.holds Tryd.pinned (OpenSpec.ofChange microParsesWrong)

/-- 'tumblerlaw02.MicroReads': WHATEVER THE INPUT: true; the input reads as it did. -/
def microReadsSpec : ChangeSpec := { name := "microReads", fn := fun _ => fun
  | [d] => { results := [.lit (.bool true)], args := [d] }
  | _ => none }
def microReadsRow : OpenClaim := { program := "ytcfhmbhlibhlnaadoor", sum := "88fedea7c81e8200822b06352ba0883e89a5c1fd39064136b93cdbf89d948df5", func := "tumbler/tumblerlaw02.MicroReads", spec := "microReads", inPlace := ["math/bits.Sub64", "math/bits.Add64", "internal/abi.NoEscape", "internal/bytealg.MakeNoZero"], named := ["internal/strconv.uint64pow10", "math/bits.deBruijn32tab", "math/bits.deBruijn64tab"], apart := false, laid := [("math/bits.deBruijn32tab", laid_math_bits_deBruijn32tab), ("math/bits.deBruijn64tab", laid_math_bits_deBruijn64tab), ("internal/strconv.uint64pow10", laid_internal_strconv_uint64pow10)] }
def MicroReadsSaid : Prop := microReadsRow.holds Tryd.pinned (OpenSpec.ofChange microReadsSpec)

/-- ITS FALSE NEIGHBOUR: 'it returns false'. Refute it at one input. -/
def microReadsWrong : ChangeSpec := { name := "microReads", fn := fun _ => fun
  | [d] => { results := [.lit (.bool false)], args := [d] }
  | _ => none }
def MicroReadsWrongFalsely : Prop := microReadsRow.holds Tryd.pinned (OpenSpec.ofChange microReadsWrong)

/-- 'tumblerlaw02.MicroShort': WHATEVER THE INPUT: true; the input reads as it did. -/
def microShortSpec : ChangeSpec := { name := "microShort", fn := fun _ => fun
  | [d] => { results := [.lit (.bool true)], args := [d] }
  | _ => none }
def microShortRow : OpenClaim := { program := "ytcfhmbhlibhlnaadoor", sum := "88fedea7c81e8200822b06352ba0883e89a5c1fd39064136b93cdbf89d948df5", func := "tumbler/tumblerlaw02.MicroShort", spec := "microShort", inPlace := ["math/bits.Sub64", "math/bits.Add64", "internal/abi.NoEscape", "internal/bytealg.MakeNoZero"], named := ["internal/strconv.uint64pow10", "math/bits.deBruijn32tab", "math/bits.deBruijn64tab"], apart := false, laid := [("math/bits.deBruijn32tab", laid_math_bits_deBruijn32tab), ("math/bits.deBruijn64tab", laid_math_bits_deBruijn64tab), ("internal/strconv.uint64pow10", laid_internal_strconv_uint64pow10)] }
def MicroShortSaid : Prop := microShortRow.holds Tryd.pinned (OpenSpec.ofChange microShortSpec)

/-- ITS FALSE NEIGHBOUR: 'it returns false'. Refute it at one input. -/
def microShortWrong : ChangeSpec := { name := "microShort", fn := fun _ => fun
  | [d] => { results := [.lit (.bool false)], args := [d] }
  | _ => none }
def MicroShortWrongFalsely : Prop := microShortRow.holds Tryd.pinned (OpenSpec.ofChange microShortWrong)

/-- 'tumblerlaw02.MicroSame': WHATEVER THE INPUT: true; the input reads as it did. -/
def microSameSpec : ChangeSpec := { name := "microSame", fn := fun _ => fun
  | [d] => { results := [.lit (.bool true)], args := [d] }
  | _ => none }
def microSameRow : OpenClaim := { program := "ytcfhmbhlibhlnaadoor", sum := "88fedea7c81e8200822b06352ba0883e89a5c1fd39064136b93cdbf89d948df5", func := "tumbler/tumblerlaw02.MicroSame", spec := "microSame", inPlace := ["math/bits.Sub64", "math/bits.Add64", "internal/abi.NoEscape", "internal/bytealg.MakeNoZero"], named := ["internal/strconv.uint64pow10", "math/bits.deBruijn32tab", "math/bits.deBruijn64tab"], apart := false, laid := [("math/bits.deBruijn32tab", laid_math_bits_deBruijn32tab), ("math/bits.deBruijn64tab", laid_math_bits_deBruijn64tab), ("internal/strconv.uint64pow10", laid_internal_strconv_uint64pow10)] }
def MicroSameSaid : Prop := microSameRow.holds Tryd.pinned (OpenSpec.ofChange microSameSpec)

/-- ITS FALSE NEIGHBOUR: 'it returns false'. Refute it at one input. -/
def microSameWrong : ChangeSpec := { name := "microSame", fn := fun _ => fun
  | [d] => { results := [.lit (.bool false)], args := [d] }
  | _ => none }
def MicroSameWrongFalsely : Prop := microSameRow.holds Tryd.pinned (OpenSpec.ofChange microSameWrong)

/- THE SECOND FORM. 'bulk': how many values and letters a reading holds, each counted each time it is reached (what is shared counts as often as it is met; a slice's spare places count too). A statement '..UptoSaid' is the law's where the arguments, and the package variables that the reading takes, are together of bulk at most 1048576: NARROWER than '..Said'. Prove '..Said' where nothing that the law and all that it calls make is longer than what came in: it says more and counts as full. Else prove '..UptoSaid'. A law counts once. -/
mutual
def uptoBulk {H : Type} : DataW H → Nat
  | .lit (.string bytes) => bytes.length + 1
  | .lit _ => 1
  | .nil => 1
  | .ptr d => uptoBulk d + 1
  | .slice elems spare => uptoBulkAll elems + uptoBulkAll spare + 1
  | .agg parts => uptoBulkAll parts + 1
  | .iface _ d => uptoBulk d + 1
  | .map entries => uptoBulkEntries entries + 1
  | .held _ => 1
def uptoBulkAll {H : Type} : List (DataW H) → Nat
  | [] => 0
  | d :: r => uptoBulk d + uptoBulkAll r
def uptoBulkEntries {H : Type} : List (Lit × DataW H) → Nat
  | [] => 0
  | x :: r => uptoBulkEntry x + uptoBulkEntries r
def uptoBulkEntry {H : Type} : Lit × DataW H → Nat
  | (.string bytes, d) => bytes.length + uptoBulk d + 1
  | (_, d) => uptoBulk d + 1
 end
def uptoSmall : (H : Type) → List (DataW H) → Bool := fun _ ds => decide (uptoBulkAll ds ≤ 1048576)
def OpenSpec.upto (s : _root_.Go.ChangeSpec) : _root_.Go.OpenSpec := { _root_.Go.OpenSpec.ofChange s with cond := some uptoSmall }

/-- 'tumblerlaw01.WidePrints', WHERE WHAT IT READS IS OF BULK AT MOST 1048576: true; the input reads as it did. -/
def widePrintsUptoRow : OpenClaim := { program := "ytcfhmbhlibhlnaadoor", sum := "88fedea7c81e8200822b06352ba0883e89a5c1fd39064136b93cdbf89d948df5", func := "tumbler/tumblerlaw01.WidePrints", spec := "widePrints", inPlace := ["math/bits.Sub64", "internal/abi.NoEscape", "internal/bytealg.MakeNoZero"], named := ["internal/strconv.uint64pow10", "math/bits.deBruijn32tab", "math/bits.deBruijn64tab"], apart := false, laid := [("math/bits.deBruijn32tab", laid_math_bits_deBruijn32tab), ("math/bits.deBruijn64tab", laid_math_bits_deBruijn64tab), ("internal/strconv.uint64pow10", laid_internal_strconv_uint64pow10)], narrowed := true }
def WidePrintsUptoSaid : Prop := widePrintsUptoRow.holds Tryd.pinned (OpenSpec.upto widePrintsSpec)

/-- 'tumblerlaw01.WideMuls', WHERE WHAT IT READS IS OF BULK AT MOST 1048576: true; the input reads as it did. -/
def wideMulsUptoRow : OpenClaim := { program := "ytcfhmbhlibhlnaadoor", sum := "88fedea7c81e8200822b06352ba0883e89a5c1fd39064136b93cdbf89d948df5", func := "tumbler/tumblerlaw01.WideMuls", spec := "wideMuls", inPlace := ["math/bits.Sub64", "math/bits.Add64", "internal/abi.NoEscape", "internal/bytealg.MakeNoZero"], named := ["internal/strconv.uint64pow10", "math/bits.deBruijn32tab", "math/bits.deBruijn64tab"], apart := false, laid := [("math/bits.deBruijn32tab", laid_math_bits_deBruijn32tab), ("math/bits.deBruijn64tab", laid_math_bits_deBruijn64tab), ("internal/strconv.uint64pow10", laid_internal_strconv_uint64pow10)], narrowed := true }
def WideMulsUptoSaid : Prop := wideMulsUptoRow.holds Tryd.pinned (OpenSpec.upto wideMulsSpec)

/-- 'tumblerlaw01.WideOrders', WHERE WHAT IT READS IS OF BULK AT MOST 1048576: true; the input reads as it did. -/
def wideOrdersUptoRow : OpenClaim := { program := "ytcfhmbhlibhlnaadoor", sum := "88fedea7c81e8200822b06352ba0883e89a5c1fd39064136b93cdbf89d948df5", func := "tumbler/tumblerlaw01.WideOrders", spec := "wideOrders", inPlace := ["math/bits.Add64", "math/bits.Sub64", "internal/abi.NoEscape", "internal/bytealg.MakeNoZero"], named := ["internal/strconv.uint64pow10", "math/bits.deBruijn32tab", "math/bits.deBruijn64tab"], apart := false, laid := [("math/bits.deBruijn32tab", laid_math_bits_deBruijn32tab), ("math/bits.deBruijn64tab", laid_math_bits_deBruijn64tab), ("internal/strconv.uint64pow10", laid_internal_strconv_uint64pow10)], narrowed := true }
def WideOrdersUptoSaid : Prop := wideOrdersUptoRow.holds Tryd.pinned (OpenSpec.upto wideOrdersSpec)

/-- 'tumblerlaw01.WideQuos', WHERE WHAT IT READS IS OF BULK AT MOST 1048576: true; the input reads as it did. -/
def wideQuosUptoRow : OpenClaim := { program := "ytcfhmbhlibhlnaadoor", sum := "88fedea7c81e8200822b06352ba0883e89a5c1fd39064136b93cdbf89d948df5", func := "tumbler/tumblerlaw01.WideQuos", spec := "wideQuos", inPlace := ["math/bits.Sub64", "math/bits.Add64", "internal/abi.NoEscape", "internal/bytealg.MakeNoZero"], named := ["internal/strconv.uint64pow10", "math/bits.deBruijn32tab", "math/bits.deBruijn64tab"], apart := false, laid := [("math/bits.deBruijn32tab", laid_math_bits_deBruijn32tab), ("math/bits.deBruijn64tab", laid_math_bits_deBruijn64tab), ("internal/strconv.uint64pow10", laid_internal_strconv_uint64pow10)], narrowed := true }
def WideQuosUptoSaid : Prop := wideQuosUptoRow.holds Tryd.pinned (OpenSpec.upto wideQuosSpec)

/-- 'tumblerlaw01.WideSums', WHERE WHAT IT READS IS OF BULK AT MOST 1048576: true; the input reads as it did. -/
def wideSumsUptoRow : OpenClaim := { program := "ytcfhmbhlibhlnaadoor", sum := "88fedea7c81e8200822b06352ba0883e89a5c1fd39064136b93cdbf89d948df5", func := "tumbler/tumblerlaw01.WideSums", spec := "wideSums", inPlace := ["math/bits.Add64", "math/bits.Sub64", "internal/abi.NoEscape", "internal/bytealg.MakeNoZero"], named := ["internal/strconv.uint64pow10", "math/bits.deBruijn32tab", "math/bits.deBruijn64tab"], apart := false, laid := [("math/bits.deBruijn32tab", laid_math_bits_deBruijn32tab), ("math/bits.deBruijn64tab", laid_math_bits_deBruijn64tab), ("internal/strconv.uint64pow10", laid_internal_strconv_uint64pow10)], narrowed := true }
def WideSumsUptoSaid : Prop := wideSumsUptoRow.holds Tryd.pinned (OpenSpec.upto wideSumsSpec)

/-- 'tumblerlaw01.WideRoots', WHERE WHAT IT READS IS OF BULK AT MOST 1048576: true; the input reads as it did. -/
def wideRootsUptoRow : OpenClaim := { program := "ytcfhmbhlibhlnaadoor", sum := "88fedea7c81e8200822b06352ba0883e89a5c1fd39064136b93cdbf89d948df5", func := "tumbler/tumblerlaw01.WideRoots", spec := "wideRoots", inPlace := ["math/bits.Sub64", "math/bits.Add64", "internal/abi.NoEscape", "internal/bytealg.MakeNoZero"], named := ["internal/strconv.uint64pow10", "math/bits.deBruijn32tab", "math/bits.deBruijn64tab"], apart := false, laid := [("math/bits.deBruijn32tab", laid_math_bits_deBruijn32tab), ("math/bits.deBruijn64tab", laid_math_bits_deBruijn64tab), ("internal/strconv.uint64pow10", laid_internal_strconv_uint64pow10)], narrowed := true }
def WideRootsUptoSaid : Prop := wideRootsUptoRow.holds Tryd.pinned (OpenSpec.upto wideRootsSpec)

/-- 'tumblerlaw01.WideAdds', WHERE WHAT IT READS IS OF BULK AT MOST 1048576: true; the input reads as it did. -/
def wideAddsUptoRow : OpenClaim := { program := "ytcfhmbhlibhlnaadoor", sum := "88fedea7c81e8200822b06352ba0883e89a5c1fd39064136b93cdbf89d948df5", func := "tumbler/tumblerlaw01.WideAdds", spec := "wideAdds", inPlace := ["math/bits.Add64", "math/bits.Sub64", "internal/abi.NoEscape", "internal/bytealg.MakeNoZero"], named := ["internal/strconv.uint64pow10", "math/bits.deBruijn32tab", "math/bits.deBruijn64tab"], apart := false, laid := [("math/bits.deBruijn32tab", laid_math_bits_deBruijn32tab), ("math/bits.deBruijn64tab", laid_math_bits_deBruijn64tab), ("internal/strconv.uint64pow10", laid_internal_strconv_uint64pow10)], narrowed := true }
def WideAddsUptoSaid : Prop := wideAddsUptoRow.holds Tryd.pinned (OpenSpec.upto wideAddsSpec)

/-- 'tumblerlaw01.WideLaws', WHERE WHAT IT READS IS OF BULK AT MOST 1048576: true; the input reads as it did. -/
def wideLawsUptoRow : OpenClaim := { program := "ytcfhmbhlibhlnaadoor", sum := "88fedea7c81e8200822b06352ba0883e89a5c1fd39064136b93cdbf89d948df5", func := "tumbler/tumblerlaw01.WideLaws", spec := "wideLaws", inPlace := ["math/bits.Sub64", "math/bits.Add64", "internal/abi.NoEscape", "internal/bytealg.MakeNoZero"], named := ["internal/strconv.uint64pow10", "math/bits.deBruijn32tab", "math/bits.deBruijn64tab"], apart := false, laid := [("math/bits.deBruijn32tab", laid_math_bits_deBruijn32tab), ("math/bits.deBruijn64tab", laid_math_bits_deBruijn64tab), ("internal/strconv.uint64pow10", laid_internal_strconv_uint64pow10)], narrowed := true }
def WideLawsUptoSaid : Prop := wideLawsUptoRow.holds Tryd.pinned (OpenSpec.upto wideLawsSpec)

/-- 'tumblerlaw01.WideShuffles', WHERE WHAT IT READS IS OF BULK AT MOST 1048576: true; the input reads as it did. -/
def wideShufflesUptoRow : OpenClaim := { program := "ytcfhmbhlibhlnaadoor", sum := "88fedea7c81e8200822b06352ba0883e89a5c1fd39064136b93cdbf89d948df5", func := "tumbler/tumblerlaw01.WideShuffles", spec := "wideShuffles", inPlace := ["math/bits.Sub64", "math/bits.Add64", "internal/abi.NoEscape", "internal/bytealg.MakeNoZero"], named := ["internal/strconv.uint64pow10", "math/bits.deBruijn32tab", "math/bits.deBruijn64tab"], apart := false, laid := [("math/bits.deBruijn32tab", laid_math_bits_deBruijn32tab), ("math/bits.deBruijn64tab", laid_math_bits_deBruijn64tab), ("internal/strconv.uint64pow10", laid_internal_strconv_uint64pow10)], narrowed := true }
def WideShufflesUptoSaid : Prop := wideShufflesUptoRow.holds Tryd.pinned (OpenSpec.upto wideShufflesSpec)

/-- 'tumblerlaw01.WideSigns', WHERE WHAT IT READS IS OF BULK AT MOST 1048576: true; the input reads as it did. -/
def wideSignsUptoRow : OpenClaim := { program := "ytcfhmbhlibhlnaadoor", sum := "88fedea7c81e8200822b06352ba0883e89a5c1fd39064136b93cdbf89d948df5", func := "tumbler/tumblerlaw01.WideSigns", spec := "wideSigns", inPlace := ["math/bits.Sub64", "math/bits.Add64", "internal/abi.NoEscape", "internal/bytealg.MakeNoZero"], named := ["internal/strconv.uint64pow10", "math/bits.deBruijn32tab", "math/bits.deBruijn64tab"], apart := false, laid := [("math/bits.deBruijn32tab", laid_math_bits_deBruijn32tab), ("math/bits.deBruijn64tab", laid_math_bits_deBruijn64tab), ("internal/strconv.uint64pow10", laid_internal_strconv_uint64pow10)], narrowed := true }
def WideSignsUptoSaid : Prop := wideSignsUptoRow.holds Tryd.pinned (OpenSpec.upto wideSignsSpec)

/-- 'tumblerlaw01.WideSquares', WHERE WHAT IT READS IS OF BULK AT MOST 1048576: true; the input reads as it did. -/
def wideSquaresUptoRow : OpenClaim := { program := "ytcfhmbhlibhlnaadoor", sum := "88fedea7c81e8200822b06352ba0883e89a5c1fd39064136b93cdbf89d948df5", func := "tumbler/tumblerlaw01.WideSquares", spec := "wideSquares", inPlace := ["math/bits.Sub64", "math/bits.Add64", "internal/abi.NoEscape", "internal/bytealg.MakeNoZero"], named := ["internal/strconv.uint64pow10", "math/bits.deBruijn32tab", "math/bits.deBruijn64tab"], apart := false, laid := [("math/bits.deBruijn32tab", laid_math_bits_deBruijn32tab), ("math/bits.deBruijn64tab", laid_math_bits_deBruijn64tab), ("internal/strconv.uint64pow10", laid_internal_strconv_uint64pow10)], narrowed := true }
def WideSquaresUptoSaid : Prop := wideSquaresUptoRow.holds Tryd.pinned (OpenSpec.upto wideSquaresSpec)

/-- 'tumblerlaw01.WideDivides', WHERE WHAT IT READS IS OF BULK AT MOST 1048576: true; the input reads as it did. -/
def wideDividesUptoRow : OpenClaim := { program := "ytcfhmbhlibhlnaadoor", sum := "88fedea7c81e8200822b06352ba0883e89a5c1fd39064136b93cdbf89d948df5", func := "tumbler/tumblerlaw01.WideDivides", spec := "wideDivides", inPlace := ["math/bits.Sub64", "math/bits.Add64", "internal/abi.NoEscape", "internal/bytealg.MakeNoZero"], named := ["internal/strconv.uint64pow10", "math/bits.deBruijn32tab", "math/bits.deBruijn64tab"], apart := false, laid := [("math/bits.deBruijn32tab", laid_math_bits_deBruijn32tab), ("math/bits.deBruijn64tab", laid_math_bits_deBruijn64tab), ("internal/strconv.uint64pow10", laid_internal_strconv_uint64pow10)], narrowed := true }
def WideDividesUptoSaid : Prop := wideDividesUptoRow.holds Tryd.pinned (OpenSpec.upto wideDividesSpec)

/-- 'tumblerlaw01.WideParses', WHERE WHAT IT READS IS OF BULK AT MOST 1048576: true; the input reads as it did. -/
def wideParsesUptoRow : OpenClaim := { program := "ytcfhmbhlibhlnaadoor", sum := "88fedea7c81e8200822b06352ba0883e89a5c1fd39064136b93cdbf89d948df5", func := "tumbler/tumblerlaw01.WideParses", spec := "wideParses", inPlace := ["math/bits.Add64", "math/bits.Sub64", "internal/abi.NoEscape", "internal/bytealg.MakeNoZero"], named := ["internal/strconv.uint64pow10", "math/bits.deBruijn32tab", "math/bits.deBruijn64tab"], apart := false, laid := [("math/bits.deBruijn32tab", laid_math_bits_deBruijn32tab), ("math/bits.deBruijn64tab", laid_math_bits_deBruijn64tab), ("internal/strconv.uint64pow10", laid_internal_strconv_uint64pow10)], narrowed := true }
def WideParsesUptoSaid : Prop := wideParsesUptoRow.holds Tryd.pinned (OpenSpec.upto wideParsesSpec)

/-- 'tumblerlaw01.WideBack', WHERE WHAT IT READS IS OF BULK AT MOST 1048576: true; the input reads as it did. -/
def wideBackUptoRow : OpenClaim := { program := "ytcfhmbhlibhlnaadoor", sum := "88fedea7c81e8200822b06352ba0883e89a5c1fd39064136b93cdbf89d948df5", func := "tumbler/tumblerlaw01.WideBack", spec := "wideBack", inPlace := ["math/bits.Sub64", "internal/abi.NoEscape", "internal/bytealg.MakeNoZero", "math/bits.Add64"], named := ["internal/strconv.uint64pow10", "math/bits.deBruijn32tab", "math/bits.deBruijn64tab"], apart := false, laid := [("math/bits.deBruijn32tab", laid_math_bits_deBruijn32tab), ("math/bits.deBruijn64tab", laid_math_bits_deBruijn64tab), ("internal/strconv.uint64pow10", laid_internal_strconv_uint64pow10)], narrowed := true }
def WideBackUptoSaid : Prop := wideBackUptoRow.holds Tryd.pinned (OpenSpec.upto wideBackSpec)

/-- 'tumblerlaw02.MicroShows', WHERE WHAT IT READS IS OF BULK AT MOST 1048576: true; the input reads as it did. -/
def microShowsUptoRow : OpenClaim := { program := "ytcfhmbhlibhlnaadoor", sum := "88fedea7c81e8200822b06352ba0883e89a5c1fd39064136b93cdbf89d948df5", func := "tumbler/tumblerlaw02.MicroShows", spec := "microShows", inPlace := ["math/bits.Sub64", "internal/abi.NoEscape", "internal/bytealg.MakeNoZero"], named := ["internal/strconv.uint64pow10", "math/bits.deBruijn32tab", "math/bits.deBruijn64tab"], apart := false, laid := [("math/bits.deBruijn32tab", laid_math_bits_deBruijn32tab), ("math/bits.deBruijn64tab", laid_math_bits_deBruijn64tab), ("internal/strconv.uint64pow10", laid_internal_strconv_uint64pow10)], narrowed := true }
def MicroShowsUptoSaid : Prop := microShowsUptoRow.holds Tryd.pinned (OpenSpec.upto microShowsSpec)

/-- 'tumblerlaw02.MicroPrints', WHERE WHAT IT READS IS OF BULK AT MOST 1048576: true; the input reads as it did. -/
def microPrintsUptoRow : OpenClaim := { program := "ytcfhmbhlibhlnaadoor", sum := "88fedea7c81e8200822b06352ba0883e89a5c1fd39064136b93cdbf89d948df5", func := "tumbler/tumblerlaw02.MicroPrints", spec := "microPrints", inPlace := ["math/bits.Sub64", "internal/abi.NoEscape", "internal/bytealg.MakeNoZero"], named := ["internal/strconv.uint64pow10", "math/bits.deBruijn32tab", "math/bits.deBruijn64tab"], apart := false, laid := [("math/bits.deBruijn32tab", laid_math_bits_deBruijn32tab), ("math/bits.deBruijn64tab", laid_math_bits_deBruijn64tab), ("internal/strconv.uint64pow10", laid_internal_strconv_uint64pow10)], narrowed := true }
def MicroPrintsUptoSaid : Prop := microPrintsUptoRow.holds Tryd.pinned (OpenSpec.upto microPrintsSpec)

/-- 'tumblerlaw02.MicroWideBack', WHERE WHAT IT READS IS OF BULK AT MOST 1048576: true; the input reads as it did. -/
def microWideBackUptoRow : OpenClaim := { program := "ytcfhmbhlibhlnaadoor", sum := "88fedea7c81e8200822b06352ba0883e89a5c1fd39064136b93cdbf89d948df5", func := "tumbler/tumblerlaw02.MicroWideBack", spec := "microWideBack", inPlace := ["math/bits.Sub64", "internal/abi.NoEscape", "internal/bytealg.MakeNoZero", "math/bits.Add64"], named := ["internal/strconv.uint64pow10", "math/bits.deBruijn32tab", "math/bits.deBruijn64tab"], apart := false, laid := [("math/bits.deBruijn32tab", laid_math_bits_deBruijn32tab), ("math/bits.deBruijn64tab", laid_math_bits_deBruijn64tab), ("internal/strconv.uint64pow10", laid_internal_strconv_uint64pow10)], narrowed := true }
def MicroWideBackUptoSaid : Prop := microWideBackUptoRow.holds Tryd.pinned (OpenSpec.upto microWideBackSpec)

/-- 'tumblerlaw02.MicroBack', WHERE WHAT IT READS IS OF BULK AT MOST 1048576: true; the input reads as it did. -/
def microBackUptoRow : OpenClaim := { program := "ytcfhmbhlibhlnaadoor", sum := "88fedea7c81e8200822b06352ba0883e89a5c1fd39064136b93cdbf89d948df5", func := "tumbler/tumblerlaw02.MicroBack", spec := "microBack", inPlace := ["math/bits.Sub64", "internal/abi.NoEscape", "internal/bytealg.MakeNoZero", "math/bits.Add64"], named := ["internal/strconv.uint64pow10", "math/bits.deBruijn32tab", "math/bits.deBruijn64tab"], apart := false, laid := [("math/bits.deBruijn32tab", laid_math_bits_deBruijn32tab), ("math/bits.deBruijn64tab", laid_math_bits_deBruijn64tab), ("internal/strconv.uint64pow10", laid_internal_strconv_uint64pow10)], narrowed := true }
def MicroBackUptoSaid : Prop := microBackUptoRow.holds Tryd.pinned (OpenSpec.upto microBackSpec)

/-- 'tumblerlaw02.MicroParses', WHERE WHAT IT READS IS OF BULK AT MOST 1048576: true; the input reads as it did. -/
def microParsesUptoRow : OpenClaim := { program := "ytcfhmbhlibhlnaadoor", sum := "88fedea7c81e8200822b06352ba0883e89a5c1fd39064136b93cdbf89d948df5", func := "tumbler/tumblerlaw02.MicroParses", spec := "microParses", inPlace := ["math/bits.Sub64", "math/bits.Add64", "internal/abi.NoEscape", "internal/bytealg.MakeNoZero"], named := ["internal/strconv.uint64pow10", "math/bits.deBruijn32tab", "math/bits.deBruijn64tab"], apart := false, laid := [("math/bits.deBruijn32tab", laid_math_bits_deBruijn32tab), ("math/bits.deBruijn64tab", laid_math_bits_deBruijn64tab), ("internal/strconv.uint64pow10", laid_internal_strconv_uint64pow10)], narrowed := true }
def MicroParsesUptoSaid : Prop := microParsesUptoRow.holds Tryd.pinned (OpenSpec.upto microParsesSpec)

/-- 'tumblerlaw02.MicroReads', WHERE WHAT IT READS IS OF BULK AT MOST 1048576: true; the input reads as it did. -/
def microReadsUptoRow : OpenClaim := { program := "ytcfhmbhlibhlnaadoor", sum := "88fedea7c81e8200822b06352ba0883e89a5c1fd39064136b93cdbf89d948df5", func := "tumbler/tumblerlaw02.MicroReads", spec := "microReads", inPlace := ["math/bits.Sub64", "math/bits.Add64", "internal/abi.NoEscape", "internal/bytealg.MakeNoZero"], named := ["internal/strconv.uint64pow10", "math/bits.deBruijn32tab", "math/bits.deBruijn64tab"], apart := false, laid := [("math/bits.deBruijn32tab", laid_math_bits_deBruijn32tab), ("math/bits.deBruijn64tab", laid_math_bits_deBruijn64tab), ("internal/strconv.uint64pow10", laid_internal_strconv_uint64pow10)], narrowed := true }
def MicroReadsUptoSaid : Prop := microReadsUptoRow.holds Tryd.pinned (OpenSpec.upto microReadsSpec)

/-- 'tumblerlaw02.MicroShort', WHERE WHAT IT READS IS OF BULK AT MOST 1048576: true; the input reads as it did. -/
def microShortUptoRow : OpenClaim := { program := "ytcfhmbhlibhlnaadoor", sum := "88fedea7c81e8200822b06352ba0883e89a5c1fd39064136b93cdbf89d948df5", func := "tumbler/tumblerlaw02.MicroShort", spec := "microShort", inPlace := ["math/bits.Sub64", "math/bits.Add64", "internal/abi.NoEscape", "internal/bytealg.MakeNoZero"], named := ["internal/strconv.uint64pow10", "math/bits.deBruijn32tab", "math/bits.deBruijn64tab"], apart := false, laid := [("math/bits.deBruijn32tab", laid_math_bits_deBruijn32tab), ("math/bits.deBruijn64tab", laid_math_bits_deBruijn64tab), ("internal/strconv.uint64pow10", laid_internal_strconv_uint64pow10)], narrowed := true }
def MicroShortUptoSaid : Prop := microShortUptoRow.holds Tryd.pinned (OpenSpec.upto microShortSpec)

/-- 'tumblerlaw02.MicroSame', WHERE WHAT IT READS IS OF BULK AT MOST 1048576: true; the input reads as it did. -/
def microSameUptoRow : OpenClaim := { program := "ytcfhmbhlibhlnaadoor", sum := "88fedea7c81e8200822b06352ba0883e89a5c1fd39064136b93cdbf89d948df5", func := "tumbler/tumblerlaw02.MicroSame", spec := "microSame", inPlace := ["math/bits.Sub64", "math/bits.Add64", "internal/abi.NoEscape", "internal/bytealg.MakeNoZero"], named := ["internal/strconv.uint64pow10", "math/bits.deBruijn32tab", "math/bits.deBruijn64tab"], apart := false, laid := [("math/bits.deBruijn32tab", laid_math_bits_deBruijn32tab), ("math/bits.deBruijn64tab", laid_math_bits_deBruijn64tab), ("internal/strconv.uint64pow10", laid_internal_strconv_uint64pow10)], narrowed := true }
def MicroSameUptoSaid : Prop := microSameUptoRow.holds Tryd.pinned (OpenSpec.upto microSameSpec)

end Rows
end Go.Proofs.YtcfhmbhlibhlnaaDoor
