/-
  DERIVED. GIVEN WITH THE SEED: THE CARDS: each row of YtcfhmbhlibhlnaaDoorRows.lean that lists a variable, with what it lists TIED to the program's text (the seventh form; the later family's looks); each row that meets fmt, with fmt's text TOLD by the authors' own Lean function (tested against real Go, not proved from fmt's source: count such statements apart). THE CARD IS WHAT COUNTS. Prove the row's statement (the work); the ties are given (YtcfhmbhlibhlnaaDoorTie.lean); close each card by the builder's one call (the guide's Derived/Test/ToyasCard.lean, 'card_holds'). Laid BY PROGRAM, IN A SANDBOX (cutbox-door.mjs). By AI agents, Wed Nov 11 2026. No macro, syntax, notation, axiom, sorry.
-/
import Derived.Test.YtcfhmbhlibhlnaaDoorRows
import GoSem.ClaimSeven
namespace Go.Proofs.YtcfhmbhlibhlnaaDoor
namespace Rows

/-- THE TIED CARD OF 'tumblerlaw01.WidePrints'. -/
def widePrintsCard : Claim7 := { stood := { row := widePrintsRow, standIns := [], harness := (true, "82326b264705dfea9847ead43dcfe7e7137f7831b0280e306472ac47f0775054"), looks := false }, kinds := [], alts := [], laidByText := true, laidKinds := [.data, .data, .data], laidTests := true, laidLooks := .later }
def WidePrintsCardSaid : Prop := Claim7.holds Tryd.pinned (.plain (OpenSpec.ofChange widePrintsSpec)) widePrintsCard

/-- THE TIED CARD OF 'tumblerlaw01.WideMuls'. -/
def wideMulsCard : Claim7 := { stood := { row := wideMulsRow, standIns := [], harness := (true, "82326b264705dfea9847ead43dcfe7e7137f7831b0280e306472ac47f0775054"), looks := false }, kinds := [], alts := [], laidByText := true, laidKinds := [.data, .data, .data], laidTests := true, laidLooks := .later }
def WideMulsCardSaid : Prop := Claim7.holds Tryd.pinned (.plain (OpenSpec.ofChange wideMulsSpec)) wideMulsCard

/-- THE TIED CARD OF 'tumblerlaw01.WideOrders'. -/
def wideOrdersCard : Claim7 := { stood := { row := wideOrdersRow, standIns := [], harness := (true, "82326b264705dfea9847ead43dcfe7e7137f7831b0280e306472ac47f0775054"), looks := false }, kinds := [], alts := [], laidByText := true, laidKinds := [.data, .data, .data], laidTests := true, laidLooks := .later }
def WideOrdersCardSaid : Prop := Claim7.holds Tryd.pinned (.plain (OpenSpec.ofChange wideOrdersSpec)) wideOrdersCard

/-- THE TIED CARD OF 'tumblerlaw01.WideQuos'. -/
def wideQuosCard : Claim7 := { stood := { row := wideQuosRow, standIns := [], harness := (true, "82326b264705dfea9847ead43dcfe7e7137f7831b0280e306472ac47f0775054"), looks := false }, kinds := [], alts := [], laidByText := true, laidKinds := [.data, .data, .data], laidTests := true, laidLooks := .later }
def WideQuosCardSaid : Prop := Claim7.holds Tryd.pinned (.plain (OpenSpec.ofChange wideQuosSpec)) wideQuosCard

/-- THE TIED CARD OF 'tumblerlaw01.WideSums'. -/
def wideSumsCard : Claim7 := { stood := { row := wideSumsRow, standIns := [], harness := (true, "82326b264705dfea9847ead43dcfe7e7137f7831b0280e306472ac47f0775054"), looks := false }, kinds := [], alts := [], laidByText := true, laidKinds := [.data, .data, .data], laidTests := true, laidLooks := .later }
def WideSumsCardSaid : Prop := Claim7.holds Tryd.pinned (.plain (OpenSpec.ofChange wideSumsSpec)) wideSumsCard

/-- THE TIED CARD OF 'tumblerlaw01.WideRoots'. -/
def wideRootsCard : Claim7 := { stood := { row := wideRootsRow, standIns := [], harness := (true, "82326b264705dfea9847ead43dcfe7e7137f7831b0280e306472ac47f0775054"), looks := false }, kinds := [], alts := [], laidByText := true, laidKinds := [.data, .data, .data], laidTests := true, laidLooks := .later }
def WideRootsCardSaid : Prop := Claim7.holds Tryd.pinned (.plain (OpenSpec.ofChange wideRootsSpec)) wideRootsCard

/-- THE TIED CARD OF 'tumblerlaw01.WideAdds'. -/
def wideAddsCard : Claim7 := { stood := { row := wideAddsRow, standIns := [], harness := (true, "82326b264705dfea9847ead43dcfe7e7137f7831b0280e306472ac47f0775054"), looks := false }, kinds := [], alts := [], laidByText := true, laidKinds := [.data, .data, .data], laidTests := true, laidLooks := .later }
def WideAddsCardSaid : Prop := Claim7.holds Tryd.pinned (.plain (OpenSpec.ofChange wideAddsSpec)) wideAddsCard

/-- THE TIED CARD OF 'tumblerlaw01.WideLaws'. -/
def wideLawsCard : Claim7 := { stood := { row := wideLawsRow, standIns := [], harness := (true, "82326b264705dfea9847ead43dcfe7e7137f7831b0280e306472ac47f0775054"), looks := false }, kinds := [], alts := [], laidByText := true, laidKinds := [.data, .data, .data], laidTests := true, laidLooks := .later }
def WideLawsCardSaid : Prop := Claim7.holds Tryd.pinned (.plain (OpenSpec.ofChange wideLawsSpec)) wideLawsCard

/-- THE TIED CARD OF 'tumblerlaw01.WideShuffles'. -/
def wideShufflesCard : Claim7 := { stood := { row := wideShufflesRow, standIns := [], harness := (true, "82326b264705dfea9847ead43dcfe7e7137f7831b0280e306472ac47f0775054"), looks := false }, kinds := [], alts := [], laidByText := true, laidKinds := [.data, .data, .data], laidTests := true, laidLooks := .later }
def WideShufflesCardSaid : Prop := Claim7.holds Tryd.pinned (.plain (OpenSpec.ofChange wideShufflesSpec)) wideShufflesCard

/-- THE TIED CARD OF 'tumblerlaw01.WideSigns'. -/
def wideSignsCard : Claim7 := { stood := { row := wideSignsRow, standIns := [], harness := (true, "82326b264705dfea9847ead43dcfe7e7137f7831b0280e306472ac47f0775054"), looks := false }, kinds := [], alts := [], laidByText := true, laidKinds := [.data, .data, .data], laidTests := true, laidLooks := .later }
def WideSignsCardSaid : Prop := Claim7.holds Tryd.pinned (.plain (OpenSpec.ofChange wideSignsSpec)) wideSignsCard

/-- THE TIED CARD OF 'tumblerlaw01.WideSquares'. -/
def wideSquaresCard : Claim7 := { stood := { row := wideSquaresRow, standIns := [], harness := (true, "82326b264705dfea9847ead43dcfe7e7137f7831b0280e306472ac47f0775054"), looks := false }, kinds := [], alts := [], laidByText := true, laidKinds := [.data, .data, .data], laidTests := true, laidLooks := .later }
def WideSquaresCardSaid : Prop := Claim7.holds Tryd.pinned (.plain (OpenSpec.ofChange wideSquaresSpec)) wideSquaresCard

/-- THE TIED CARD OF 'tumblerlaw01.WideDivides'. -/
def wideDividesCard : Claim7 := { stood := { row := wideDividesRow, standIns := [], harness := (true, "82326b264705dfea9847ead43dcfe7e7137f7831b0280e306472ac47f0775054"), looks := false }, kinds := [], alts := [], laidByText := true, laidKinds := [.data, .data, .data], laidTests := true, laidLooks := .later }
def WideDividesCardSaid : Prop := Claim7.holds Tryd.pinned (.plain (OpenSpec.ofChange wideDividesSpec)) wideDividesCard

/-- THE TIED CARD OF 'tumblerlaw01.WideParses'. -/
def wideParsesCard : Claim7 := { stood := { row := wideParsesRow, standIns := [], harness := (true, "82326b264705dfea9847ead43dcfe7e7137f7831b0280e306472ac47f0775054"), looks := false }, kinds := [], alts := [], laidByText := true, laidKinds := [.data, .data, .data], laidTests := true, laidLooks := .later }
def WideParsesCardSaid : Prop := Claim7.holds Tryd.pinned (.plain (OpenSpec.ofChange wideParsesSpec)) wideParsesCard

/-- THE TIED CARD OF 'tumblerlaw01.WideBack'. -/
def wideBackCard : Claim7 := { stood := { row := wideBackRow, standIns := [], harness := (true, "82326b264705dfea9847ead43dcfe7e7137f7831b0280e306472ac47f0775054"), looks := false }, kinds := [], alts := [], laidByText := true, laidKinds := [.data, .data, .data], laidTests := true, laidLooks := .later }
def WideBackCardSaid : Prop := Claim7.holds Tryd.pinned (.plain (OpenSpec.ofChange wideBackSpec)) wideBackCard

/-- THE TIED CARD OF 'tumblerlaw02.MicroShows'. -/
def microShowsCard : Claim7 := { stood := { row := microShowsRow, standIns := [], harness := (true, "82326b264705dfea9847ead43dcfe7e7137f7831b0280e306472ac47f0775054"), looks := false }, kinds := [], alts := [], laidByText := true, laidKinds := [.data, .data, .data], laidTests := true, laidLooks := .later }
def MicroShowsCardSaid : Prop := Claim7.holds Tryd.pinned (.plain (OpenSpec.ofChange microShowsSpec)) microShowsCard

/-- THE TIED CARD OF 'tumblerlaw02.MicroPrints'. -/
def microPrintsCard : Claim7 := { stood := { row := microPrintsRow, standIns := [], harness := (true, "82326b264705dfea9847ead43dcfe7e7137f7831b0280e306472ac47f0775054"), looks := false }, kinds := [], alts := [], laidByText := true, laidKinds := [.data, .data, .data], laidTests := true, laidLooks := .later }
def MicroPrintsCardSaid : Prop := Claim7.holds Tryd.pinned (.plain (OpenSpec.ofChange microPrintsSpec)) microPrintsCard

/-- THE TIED CARD OF 'tumblerlaw02.MicroWideBack'. -/
def microWideBackCard : Claim7 := { stood := { row := microWideBackRow, standIns := [], harness := (true, "82326b264705dfea9847ead43dcfe7e7137f7831b0280e306472ac47f0775054"), looks := false }, kinds := [], alts := [], laidByText := true, laidKinds := [.data, .data, .data], laidTests := true, laidLooks := .later }
def MicroWideBackCardSaid : Prop := Claim7.holds Tryd.pinned (.plain (OpenSpec.ofChange microWideBackSpec)) microWideBackCard

/-- THE TIED CARD OF 'tumblerlaw02.MicroBack'. -/
def microBackCard : Claim7 := { stood := { row := microBackRow, standIns := [], harness := (true, "82326b264705dfea9847ead43dcfe7e7137f7831b0280e306472ac47f0775054"), looks := false }, kinds := [], alts := [], laidByText := true, laidKinds := [.data, .data, .data], laidTests := true, laidLooks := .later }
def MicroBackCardSaid : Prop := Claim7.holds Tryd.pinned (.plain (OpenSpec.ofChange microBackSpec)) microBackCard

/-- THE TIED CARD OF 'tumblerlaw02.MicroParses'. -/
def microParsesCard : Claim7 := { stood := { row := microParsesRow, standIns := [], harness := (true, "82326b264705dfea9847ead43dcfe7e7137f7831b0280e306472ac47f0775054"), looks := false }, kinds := [], alts := [], laidByText := true, laidKinds := [.data, .data, .data], laidTests := true, laidLooks := .later }
def MicroParsesCardSaid : Prop := Claim7.holds Tryd.pinned (.plain (OpenSpec.ofChange microParsesSpec)) microParsesCard

/-- THE TIED CARD OF 'tumblerlaw02.MicroReads'. -/
def microReadsCard : Claim7 := { stood := { row := microReadsRow, standIns := [], harness := (true, "82326b264705dfea9847ead43dcfe7e7137f7831b0280e306472ac47f0775054"), looks := false }, kinds := [], alts := [], laidByText := true, laidKinds := [.data, .data, .data], laidTests := true, laidLooks := .later }
def MicroReadsCardSaid : Prop := Claim7.holds Tryd.pinned (.plain (OpenSpec.ofChange microReadsSpec)) microReadsCard

/-- THE TIED CARD OF 'tumblerlaw02.MicroShort'. -/
def microShortCard : Claim7 := { stood := { row := microShortRow, standIns := [], harness := (true, "82326b264705dfea9847ead43dcfe7e7137f7831b0280e306472ac47f0775054"), looks := false }, kinds := [], alts := [], laidByText := true, laidKinds := [.data, .data, .data], laidTests := true, laidLooks := .later }
def MicroShortCardSaid : Prop := Claim7.holds Tryd.pinned (.plain (OpenSpec.ofChange microShortSpec)) microShortCard

/-- THE TIED CARD OF 'tumblerlaw02.MicroSame'. -/
def microSameCard : Claim7 := { stood := { row := microSameRow, standIns := [], harness := (true, "82326b264705dfea9847ead43dcfe7e7137f7831b0280e306472ac47f0775054"), looks := false }, kinds := [], alts := [], laidByText := true, laidKinds := [.data, .data, .data], laidTests := true, laidLooks := .later }
def MicroSameCardSaid : Prop := Claim7.holds Tryd.pinned (.plain (OpenSpec.ofChange microSameSpec)) microSameCard

/-- THE SECOND FORM's CARD OF 'tumblerlaw01.WidePrints'. -/
def widePrintsUptoCard : Claim7 := { stood := { row := widePrintsUptoRow, standIns := [], harness := (true, "82326b264705dfea9847ead43dcfe7e7137f7831b0280e306472ac47f0775054"), looks := false }, kinds := [], alts := [], laidByText := true, laidKinds := [.data, .data, .data], laidTests := true, laidLooks := .later }
def WidePrintsUptoCardSaid : Prop := Claim7.holds Tryd.pinned (.plain (OpenSpec.upto widePrintsSpec)) widePrintsUptoCard

/-- THE SECOND FORM's CARD OF 'tumblerlaw01.WideMuls'. -/
def wideMulsUptoCard : Claim7 := { stood := { row := wideMulsUptoRow, standIns := [], harness := (true, "82326b264705dfea9847ead43dcfe7e7137f7831b0280e306472ac47f0775054"), looks := false }, kinds := [], alts := [], laidByText := true, laidKinds := [.data, .data, .data], laidTests := true, laidLooks := .later }
def WideMulsUptoCardSaid : Prop := Claim7.holds Tryd.pinned (.plain (OpenSpec.upto wideMulsSpec)) wideMulsUptoCard

/-- THE SECOND FORM's CARD OF 'tumblerlaw01.WideOrders'. -/
def wideOrdersUptoCard : Claim7 := { stood := { row := wideOrdersUptoRow, standIns := [], harness := (true, "82326b264705dfea9847ead43dcfe7e7137f7831b0280e306472ac47f0775054"), looks := false }, kinds := [], alts := [], laidByText := true, laidKinds := [.data, .data, .data], laidTests := true, laidLooks := .later }
def WideOrdersUptoCardSaid : Prop := Claim7.holds Tryd.pinned (.plain (OpenSpec.upto wideOrdersSpec)) wideOrdersUptoCard

/-- THE SECOND FORM's CARD OF 'tumblerlaw01.WideQuos'. -/
def wideQuosUptoCard : Claim7 := { stood := { row := wideQuosUptoRow, standIns := [], harness := (true, "82326b264705dfea9847ead43dcfe7e7137f7831b0280e306472ac47f0775054"), looks := false }, kinds := [], alts := [], laidByText := true, laidKinds := [.data, .data, .data], laidTests := true, laidLooks := .later }
def WideQuosUptoCardSaid : Prop := Claim7.holds Tryd.pinned (.plain (OpenSpec.upto wideQuosSpec)) wideQuosUptoCard

/-- THE SECOND FORM's CARD OF 'tumblerlaw01.WideSums'. -/
def wideSumsUptoCard : Claim7 := { stood := { row := wideSumsUptoRow, standIns := [], harness := (true, "82326b264705dfea9847ead43dcfe7e7137f7831b0280e306472ac47f0775054"), looks := false }, kinds := [], alts := [], laidByText := true, laidKinds := [.data, .data, .data], laidTests := true, laidLooks := .later }
def WideSumsUptoCardSaid : Prop := Claim7.holds Tryd.pinned (.plain (OpenSpec.upto wideSumsSpec)) wideSumsUptoCard

/-- THE SECOND FORM's CARD OF 'tumblerlaw01.WideRoots'. -/
def wideRootsUptoCard : Claim7 := { stood := { row := wideRootsUptoRow, standIns := [], harness := (true, "82326b264705dfea9847ead43dcfe7e7137f7831b0280e306472ac47f0775054"), looks := false }, kinds := [], alts := [], laidByText := true, laidKinds := [.data, .data, .data], laidTests := true, laidLooks := .later }
def WideRootsUptoCardSaid : Prop := Claim7.holds Tryd.pinned (.plain (OpenSpec.upto wideRootsSpec)) wideRootsUptoCard

/-- THE SECOND FORM's CARD OF 'tumblerlaw01.WideAdds'. -/
def wideAddsUptoCard : Claim7 := { stood := { row := wideAddsUptoRow, standIns := [], harness := (true, "82326b264705dfea9847ead43dcfe7e7137f7831b0280e306472ac47f0775054"), looks := false }, kinds := [], alts := [], laidByText := true, laidKinds := [.data, .data, .data], laidTests := true, laidLooks := .later }
def WideAddsUptoCardSaid : Prop := Claim7.holds Tryd.pinned (.plain (OpenSpec.upto wideAddsSpec)) wideAddsUptoCard

/-- THE SECOND FORM's CARD OF 'tumblerlaw01.WideLaws'. -/
def wideLawsUptoCard : Claim7 := { stood := { row := wideLawsUptoRow, standIns := [], harness := (true, "82326b264705dfea9847ead43dcfe7e7137f7831b0280e306472ac47f0775054"), looks := false }, kinds := [], alts := [], laidByText := true, laidKinds := [.data, .data, .data], laidTests := true, laidLooks := .later }
def WideLawsUptoCardSaid : Prop := Claim7.holds Tryd.pinned (.plain (OpenSpec.upto wideLawsSpec)) wideLawsUptoCard

/-- THE SECOND FORM's CARD OF 'tumblerlaw01.WideShuffles'. -/
def wideShufflesUptoCard : Claim7 := { stood := { row := wideShufflesUptoRow, standIns := [], harness := (true, "82326b264705dfea9847ead43dcfe7e7137f7831b0280e306472ac47f0775054"), looks := false }, kinds := [], alts := [], laidByText := true, laidKinds := [.data, .data, .data], laidTests := true, laidLooks := .later }
def WideShufflesUptoCardSaid : Prop := Claim7.holds Tryd.pinned (.plain (OpenSpec.upto wideShufflesSpec)) wideShufflesUptoCard

/-- THE SECOND FORM's CARD OF 'tumblerlaw01.WideSigns'. -/
def wideSignsUptoCard : Claim7 := { stood := { row := wideSignsUptoRow, standIns := [], harness := (true, "82326b264705dfea9847ead43dcfe7e7137f7831b0280e306472ac47f0775054"), looks := false }, kinds := [], alts := [], laidByText := true, laidKinds := [.data, .data, .data], laidTests := true, laidLooks := .later }
def WideSignsUptoCardSaid : Prop := Claim7.holds Tryd.pinned (.plain (OpenSpec.upto wideSignsSpec)) wideSignsUptoCard

/-- THE SECOND FORM's CARD OF 'tumblerlaw01.WideSquares'. -/
def wideSquaresUptoCard : Claim7 := { stood := { row := wideSquaresUptoRow, standIns := [], harness := (true, "82326b264705dfea9847ead43dcfe7e7137f7831b0280e306472ac47f0775054"), looks := false }, kinds := [], alts := [], laidByText := true, laidKinds := [.data, .data, .data], laidTests := true, laidLooks := .later }
def WideSquaresUptoCardSaid : Prop := Claim7.holds Tryd.pinned (.plain (OpenSpec.upto wideSquaresSpec)) wideSquaresUptoCard

/-- THE SECOND FORM's CARD OF 'tumblerlaw01.WideDivides'. -/
def wideDividesUptoCard : Claim7 := { stood := { row := wideDividesUptoRow, standIns := [], harness := (true, "82326b264705dfea9847ead43dcfe7e7137f7831b0280e306472ac47f0775054"), looks := false }, kinds := [], alts := [], laidByText := true, laidKinds := [.data, .data, .data], laidTests := true, laidLooks := .later }
def WideDividesUptoCardSaid : Prop := Claim7.holds Tryd.pinned (.plain (OpenSpec.upto wideDividesSpec)) wideDividesUptoCard

/-- THE SECOND FORM's CARD OF 'tumblerlaw01.WideParses'. -/
def wideParsesUptoCard : Claim7 := { stood := { row := wideParsesUptoRow, standIns := [], harness := (true, "82326b264705dfea9847ead43dcfe7e7137f7831b0280e306472ac47f0775054"), looks := false }, kinds := [], alts := [], laidByText := true, laidKinds := [.data, .data, .data], laidTests := true, laidLooks := .later }
def WideParsesUptoCardSaid : Prop := Claim7.holds Tryd.pinned (.plain (OpenSpec.upto wideParsesSpec)) wideParsesUptoCard

/-- THE SECOND FORM's CARD OF 'tumblerlaw01.WideBack'. -/
def wideBackUptoCard : Claim7 := { stood := { row := wideBackUptoRow, standIns := [], harness := (true, "82326b264705dfea9847ead43dcfe7e7137f7831b0280e306472ac47f0775054"), looks := false }, kinds := [], alts := [], laidByText := true, laidKinds := [.data, .data, .data], laidTests := true, laidLooks := .later }
def WideBackUptoCardSaid : Prop := Claim7.holds Tryd.pinned (.plain (OpenSpec.upto wideBackSpec)) wideBackUptoCard

/-- THE SECOND FORM's CARD OF 'tumblerlaw02.MicroShows'. -/
def microShowsUptoCard : Claim7 := { stood := { row := microShowsUptoRow, standIns := [], harness := (true, "82326b264705dfea9847ead43dcfe7e7137f7831b0280e306472ac47f0775054"), looks := false }, kinds := [], alts := [], laidByText := true, laidKinds := [.data, .data, .data], laidTests := true, laidLooks := .later }
def MicroShowsUptoCardSaid : Prop := Claim7.holds Tryd.pinned (.plain (OpenSpec.upto microShowsSpec)) microShowsUptoCard

/-- THE SECOND FORM's CARD OF 'tumblerlaw02.MicroPrints'. -/
def microPrintsUptoCard : Claim7 := { stood := { row := microPrintsUptoRow, standIns := [], harness := (true, "82326b264705dfea9847ead43dcfe7e7137f7831b0280e306472ac47f0775054"), looks := false }, kinds := [], alts := [], laidByText := true, laidKinds := [.data, .data, .data], laidTests := true, laidLooks := .later }
def MicroPrintsUptoCardSaid : Prop := Claim7.holds Tryd.pinned (.plain (OpenSpec.upto microPrintsSpec)) microPrintsUptoCard

/-- THE SECOND FORM's CARD OF 'tumblerlaw02.MicroWideBack'. -/
def microWideBackUptoCard : Claim7 := { stood := { row := microWideBackUptoRow, standIns := [], harness := (true, "82326b264705dfea9847ead43dcfe7e7137f7831b0280e306472ac47f0775054"), looks := false }, kinds := [], alts := [], laidByText := true, laidKinds := [.data, .data, .data], laidTests := true, laidLooks := .later }
def MicroWideBackUptoCardSaid : Prop := Claim7.holds Tryd.pinned (.plain (OpenSpec.upto microWideBackSpec)) microWideBackUptoCard

/-- THE SECOND FORM's CARD OF 'tumblerlaw02.MicroBack'. -/
def microBackUptoCard : Claim7 := { stood := { row := microBackUptoRow, standIns := [], harness := (true, "82326b264705dfea9847ead43dcfe7e7137f7831b0280e306472ac47f0775054"), looks := false }, kinds := [], alts := [], laidByText := true, laidKinds := [.data, .data, .data], laidTests := true, laidLooks := .later }
def MicroBackUptoCardSaid : Prop := Claim7.holds Tryd.pinned (.plain (OpenSpec.upto microBackSpec)) microBackUptoCard

/-- THE SECOND FORM's CARD OF 'tumblerlaw02.MicroParses'. -/
def microParsesUptoCard : Claim7 := { stood := { row := microParsesUptoRow, standIns := [], harness := (true, "82326b264705dfea9847ead43dcfe7e7137f7831b0280e306472ac47f0775054"), looks := false }, kinds := [], alts := [], laidByText := true, laidKinds := [.data, .data, .data], laidTests := true, laidLooks := .later }
def MicroParsesUptoCardSaid : Prop := Claim7.holds Tryd.pinned (.plain (OpenSpec.upto microParsesSpec)) microParsesUptoCard

/-- THE SECOND FORM's CARD OF 'tumblerlaw02.MicroReads'. -/
def microReadsUptoCard : Claim7 := { stood := { row := microReadsUptoRow, standIns := [], harness := (true, "82326b264705dfea9847ead43dcfe7e7137f7831b0280e306472ac47f0775054"), looks := false }, kinds := [], alts := [], laidByText := true, laidKinds := [.data, .data, .data], laidTests := true, laidLooks := .later }
def MicroReadsUptoCardSaid : Prop := Claim7.holds Tryd.pinned (.plain (OpenSpec.upto microReadsSpec)) microReadsUptoCard

/-- THE SECOND FORM's CARD OF 'tumblerlaw02.MicroShort'. -/
def microShortUptoCard : Claim7 := { stood := { row := microShortUptoRow, standIns := [], harness := (true, "82326b264705dfea9847ead43dcfe7e7137f7831b0280e306472ac47f0775054"), looks := false }, kinds := [], alts := [], laidByText := true, laidKinds := [.data, .data, .data], laidTests := true, laidLooks := .later }
def MicroShortUptoCardSaid : Prop := Claim7.holds Tryd.pinned (.plain (OpenSpec.upto microShortSpec)) microShortUptoCard

/-- THE SECOND FORM's CARD OF 'tumblerlaw02.MicroSame'. -/
def microSameUptoCard : Claim7 := { stood := { row := microSameUptoRow, standIns := [], harness := (true, "82326b264705dfea9847ead43dcfe7e7137f7831b0280e306472ac47f0775054"), looks := false }, kinds := [], alts := [], laidByText := true, laidKinds := [.data, .data, .data], laidTests := true, laidLooks := .later }
def MicroSameUptoCardSaid : Prop := Claim7.holds Tryd.pinned (.plain (OpenSpec.upto microSameSpec)) microSameUptoCard
end Rows
end Go.Proofs.YtcfhmbhlibhlnaaDoor
