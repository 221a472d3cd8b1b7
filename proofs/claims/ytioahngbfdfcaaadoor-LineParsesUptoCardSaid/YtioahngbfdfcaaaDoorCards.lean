/-
  DERIVED. GIVEN WITH THE SEED: THE CARDS: each row of YtioahngbfdfcaaaDoorRows.lean that lists a variable, with what it lists TIED to the program's text (the seventh form; the later family's looks); each row that meets fmt, with fmt's text TOLD by the authors' own Lean function (tested against real Go, not proved from fmt's source: count such statements apart). THE CARD IS WHAT COUNTS. Prove the row's statement (the work); the ties are given (YtioahngbfdfcaaaDoorTie.lean); close each card by the builder's one call (the guide's Derived/Test/ToyasCard.lean, 'card_holds'). Laid BY PROGRAM, IN A SANDBOX (cutbox-door.mjs). By AI agents, Wed Nov 11 2026. No macro, syntax, notation, axiom, sorry.
-/
import Derived.Test.YtioahngbfdfcaaaDoorRows
import GoSem.ClaimSeven
namespace Go.Proofs.YtioahngbfdfcaaaDoor
namespace Rows

/-- THE TIED CARD OF 'tumblerlaw04.LineParses'. -/
def lineParsesCard : Claim7 := { stood := { row := lineParsesRow, standIns := [], harness := (true, "e730abcd79d8b3abd7fc63e2884b7e69b767e55ecdfa5b33c469455b51c19afc"), looks := false }, kinds := [], alts := [], laidByText := true, laidKinds := [.data, .pinned], laidTests := true, laidLooks := .later }
def LineParsesCardSaid : Prop := Claim7.holds Tryd.pinned (.plain (OpenSpec.ofChange lineParsesSpec)) lineParsesCard

/-- THE TIED CARD OF 'tumblerlaw04.LinePlaces'. -/
def linePlacesCard : Claim7 := { stood := { row := linePlacesRow, standIns := [], harness := (true, "e730abcd79d8b3abd7fc63e2884b7e69b767e55ecdfa5b33c469455b51c19afc"), looks := false }, kinds := [], alts := [], laidByText := true, laidKinds := [.data, .pinned], laidTests := true, laidLooks := .later }
def LinePlacesCardSaid : Prop := Claim7.holds Tryd.pinned (.plain (OpenSpec.ofChange linePlacesSpec)) linePlacesCard

/-- THE TIED CARD OF 'tumblerlaw04.LineParts'. -/
def linePartsCard : Claim7 := { stood := { row := linePartsRow, standIns := [], harness := (true, "e730abcd79d8b3abd7fc63e2884b7e69b767e55ecdfa5b33c469455b51c19afc"), looks := false }, kinds := [], alts := [], laidByText := true, laidKinds := [.data, .pinned], laidTests := true, laidLooks := .later }
def LinePartsCardSaid : Prop := Claim7.holds Tryd.pinned (.plain (OpenSpec.ofChange linePartsSpec)) linePartsCard

/-- THE TIED CARD OF 'tumblerlaw04.LineOrder'. -/
def lineOrderCard : Claim7 := { stood := { row := lineOrderRow, standIns := [], harness := (true, "e730abcd79d8b3abd7fc63e2884b7e69b767e55ecdfa5b33c469455b51c19afc"), looks := false }, kinds := [], alts := [], laidByText := true, laidKinds := [.data, .pinned], laidTests := true, laidLooks := .later }
def LineOrderCardSaid : Prop := Claim7.holds Tryd.pinned (.plain (OpenSpec.ofChange lineOrderSpec)) lineOrderCard

/-- THE TIED CARD OF 'tumblerlaw04.LinePrints'. -/
def linePrintsCard : Claim7 := { stood := { row := linePrintsRow, standIns := [], harness := (true, "e730abcd79d8b3abd7fc63e2884b7e69b767e55ecdfa5b33c469455b51c19afc"), looks := false }, kinds := [], alts := [], laidByText := true, laidKinds := [.data, .data, .data, .data, .pinned], laidTests := true, laidLooks := .later }
def LinePrintsCardSaid : Prop := Claim7.holds Tryd.pinned (.plain (OpenSpec.ofChange linePrintsSpec)) linePrintsCard

/-- THE TIED CARD OF 'tumblerlaw04.LineDeltas'. -/
def lineDeltasCard : Claim7 := { stood := { row := lineDeltasRow, standIns := [], harness := (true, "e730abcd79d8b3abd7fc63e2884b7e69b767e55ecdfa5b33c469455b51c19afc"), looks := false }, kinds := [], alts := [], laidByText := true, laidKinds := [.data, .data, .data, .data, .pinned], laidTests := true, laidLooks := .later }
def LineDeltasCardSaid : Prop := Claim7.holds Tryd.pinned (.plain (OpenSpec.ofChange lineDeltasSpec)) lineDeltasCard

/-- THE TIED CARD OF 'tumblerlaw04.LineRight'. -/
def lineRightCard : Claim7 := { stood := { row := lineRightRow, standIns := [], harness := (true, "e730abcd79d8b3abd7fc63e2884b7e69b767e55ecdfa5b33c469455b51c19afc"), looks := false }, kinds := [], alts := [], laidByText := true, laidKinds := [.data, .data, .data, .data, .pinned], laidTests := true, laidLooks := .later }
def LineRightCardSaid : Prop := Claim7.holds Tryd.pinned (.plain (OpenSpec.ofChange lineRightSpec)) lineRightCard

/-- THE SECOND FORM's CARD OF 'tumblerlaw04.LineParses'. -/
def lineParsesUptoCard : Claim7 := { stood := { row := lineParsesUptoRow, standIns := [], harness := (true, "e730abcd79d8b3abd7fc63e2884b7e69b767e55ecdfa5b33c469455b51c19afc"), looks := false }, kinds := [], alts := [], laidByText := true, laidKinds := [.data, .pinned], laidTests := true, laidLooks := .later }
def LineParsesUptoCardSaid : Prop := Claim7.holds Tryd.pinned (.plain (OpenSpec.upto lineParsesSpec)) lineParsesUptoCard

/-- THE SECOND FORM's CARD OF 'tumblerlaw04.LinePlaces'. -/
def linePlacesUptoCard : Claim7 := { stood := { row := linePlacesUptoRow, standIns := [], harness := (true, "e730abcd79d8b3abd7fc63e2884b7e69b767e55ecdfa5b33c469455b51c19afc"), looks := false }, kinds := [], alts := [], laidByText := true, laidKinds := [.data, .pinned], laidTests := true, laidLooks := .later }
def LinePlacesUptoCardSaid : Prop := Claim7.holds Tryd.pinned (.plain (OpenSpec.upto linePlacesSpec)) linePlacesUptoCard

/-- THE SECOND FORM's CARD OF 'tumblerlaw04.LineParts'. -/
def linePartsUptoCard : Claim7 := { stood := { row := linePartsUptoRow, standIns := [], harness := (true, "e730abcd79d8b3abd7fc63e2884b7e69b767e55ecdfa5b33c469455b51c19afc"), looks := false }, kinds := [], alts := [], laidByText := true, laidKinds := [.data, .pinned], laidTests := true, laidLooks := .later }
def LinePartsUptoCardSaid : Prop := Claim7.holds Tryd.pinned (.plain (OpenSpec.upto linePartsSpec)) linePartsUptoCard

/-- THE SECOND FORM's CARD OF 'tumblerlaw04.LineOrder'. -/
def lineOrderUptoCard : Claim7 := { stood := { row := lineOrderUptoRow, standIns := [], harness := (true, "e730abcd79d8b3abd7fc63e2884b7e69b767e55ecdfa5b33c469455b51c19afc"), looks := false }, kinds := [], alts := [], laidByText := true, laidKinds := [.data, .pinned], laidTests := true, laidLooks := .later }
def LineOrderUptoCardSaid : Prop := Claim7.holds Tryd.pinned (.plain (OpenSpec.upto lineOrderSpec)) lineOrderUptoCard

/-- THE SECOND FORM's CARD OF 'tumblerlaw04.LinePrints'. -/
def linePrintsUptoCard : Claim7 := { stood := { row := linePrintsUptoRow, standIns := [], harness := (true, "e730abcd79d8b3abd7fc63e2884b7e69b767e55ecdfa5b33c469455b51c19afc"), looks := false }, kinds := [], alts := [], laidByText := true, laidKinds := [.data, .data, .data, .data, .pinned], laidTests := true, laidLooks := .later }
def LinePrintsUptoCardSaid : Prop := Claim7.holds Tryd.pinned (.plain (OpenSpec.upto linePrintsSpec)) linePrintsUptoCard

/-- THE SECOND FORM's CARD OF 'tumblerlaw04.LineDeltas'. -/
def lineDeltasUptoCard : Claim7 := { stood := { row := lineDeltasUptoRow, standIns := [], harness := (true, "e730abcd79d8b3abd7fc63e2884b7e69b767e55ecdfa5b33c469455b51c19afc"), looks := false }, kinds := [], alts := [], laidByText := true, laidKinds := [.data, .data, .data, .data, .pinned], laidTests := true, laidLooks := .later }
def LineDeltasUptoCardSaid : Prop := Claim7.holds Tryd.pinned (.plain (OpenSpec.upto lineDeltasSpec)) lineDeltasUptoCard

/-- THE SECOND FORM's CARD OF 'tumblerlaw04.LineRight'. -/
def lineRightUptoCard : Claim7 := { stood := { row := lineRightUptoRow, standIns := [], harness := (true, "e730abcd79d8b3abd7fc63e2884b7e69b767e55ecdfa5b33c469455b51c19afc"), looks := false }, kinds := [], alts := [], laidByText := true, laidKinds := [.data, .data, .data, .data, .pinned], laidTests := true, laidLooks := .later }
def LineRightUptoCardSaid : Prop := Claim7.holds Tryd.pinned (.plain (OpenSpec.upto lineRightSpec)) lineRightUptoCard
end Rows
end Go.Proofs.YtioahngbfdfcaaaDoor
