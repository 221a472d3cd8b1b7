/-
  DERIVED. GIVEN WITH THE SEED: THE CARDS: each row of YtkocmbgpiidkdaaGreatDoorRows.lean that lists a variable, with what it lists TIED to the program's text (the seventh form; the later family's looks); each row that meets fmt, with fmt's text TOLD by the authors' own Lean function (tested against real Go, not proved from fmt's source: count such statements apart). THE CARD IS WHAT COUNTS. Prove the row's statement (the work); the ties are given (YtkocmbgpiidkdaaGreatDoorTie.lean); close each card by the builder's one call (the guide's Derived/Test/ToyasCard.lean, 'card_holds'). Laid BY PROGRAM, IN A SANDBOX (cutbox-door.mjs). By AI agents, Wed Nov 11 2026. No macro, syntax, notation, axiom, sorry.
-/
import Derived.Test.YtkocmbgpiidkdaaGreatDoorRows
import GoSem.ClaimSeven
namespace Go.Proofs.YtkocmbgpiidkdaaGreatDoor
namespace Rows

/-- THE TIED CARD OF 'tumblerlaw10.FlushRecords'. -/
def flushRecordsCard : Claim7 := { stood := { row := flushRecordsRow, standIns := [], harness := (true, "e907aad57f490e06ad449e412c9a227f47a3079990c089b0ff990e2eebd0b731"), looks := false }, kinds := [], alts := [], laidByText := true, laidKinds := [.data, .data, .data, .data, .pinned], laidTests := true, laidLooks := .later }
def FlushRecordsCardSaid : Prop := Claim7.holds Tryz.pinned (.plain (OpenSpec.ofChange flushRecordsSpec)) flushRecordsCard

/-- THE TIED CARD OF 'tumblerlaw10.FlushRises'. -/
def flushRisesCard : Claim7 := { stood := { row := flushRisesRow, standIns := [], harness := (true, "e907aad57f490e06ad449e412c9a227f47a3079990c089b0ff990e2eebd0b731"), looks := false }, kinds := [], alts := [], laidByText := true, laidKinds := [.data, .data, .data, .data, .pinned], laidTests := true, laidLooks := .later }
def FlushRisesCardSaid : Prop := Claim7.holds Tryz.pinned (.plain (OpenSpec.ofChange flushRisesSpec)) flushRisesCard

/-- THE TIED CARD OF 'tumblerlaw10.FlushApart'. -/
def flushApartCard : Claim7 := { stood := { row := flushApartRow, standIns := [], harness := (true, "e907aad57f490e06ad449e412c9a227f47a3079990c089b0ff990e2eebd0b731"), looks := false }, kinds := [], alts := [], laidByText := true, laidKinds := [.data, .data, .data, .data, .pinned], laidTests := true, laidLooks := .later }
def FlushApartCardSaid : Prop := Claim7.holds Tryz.pinned (.plain (OpenSpec.ofChange flushApartSpec)) flushApartCard

/-- THE TIED CARD OF 'tumblerlaw10.FlushRates'. -/
def flushRatesCard : Claim7 := { stood := { row := flushRatesRow, standIns := [], harness := (true, "e907aad57f490e06ad449e412c9a227f47a3079990c089b0ff990e2eebd0b731"), looks := false }, kinds := [], alts := [], laidByText := true, laidKinds := [.data, .data, .data, .data, .pinned], laidTests := true, laidLooks := .later }
def FlushRatesCardSaid : Prop := Claim7.holds Tryz.pinned (.plain (OpenSpec.ofChange flushRatesSpec)) flushRatesCard

/-- THE TIED CARD OF 'tumblerlaw10.FlushBins'. -/
def flushBinsCard : Claim7 := { stood := { row := flushBinsRow, standIns := [], harness := (true, "e907aad57f490e06ad449e412c9a227f47a3079990c089b0ff990e2eebd0b731"), looks := false }, kinds := [], alts := [], laidByText := true, laidKinds := [.data, .data, .data, .data, .pinned], laidTests := true, laidLooks := .later }
def FlushBinsCardSaid : Prop := Claim7.holds Tryz.pinned (.plain (OpenSpec.ofChange flushBinsSpec)) flushBinsCard

/-- THE TIED CARD OF 'tumblerlaw10.FlushNone'. -/
def flushNoneCard : Claim7 := { stood := { row := flushNoneRow, standIns := [], harness := (true, "e907aad57f490e06ad449e412c9a227f47a3079990c089b0ff990e2eebd0b731"), looks := false }, kinds := [], alts := [], laidByText := true, laidKinds := [.data, .data, .data, .data, .pinned], laidTests := true, laidLooks := .later }
def FlushNoneCardSaid : Prop := Claim7.holds Tryz.pinned (.plain (OpenSpec.ofChange flushNoneSpec)) flushNoneCard

/-- THE TIED CARD OF 'tumblerlaw10.FlushSets'. -/
def flushSetsCard : Claim7 := { stood := { row := flushSetsRow, standIns := [], harness := (true, "e907aad57f490e06ad449e412c9a227f47a3079990c089b0ff990e2eebd0b731"), looks := false }, kinds := [], alts := [], laidByText := true, laidKinds := [.data, .data, .data, .data, .pinned], laidTests := true, laidLooks := .later }
def FlushSetsCardSaid : Prop := Claim7.holds Tryz.pinned (.plain (OpenSpec.ofChange flushSetsSpec)) flushSetsCard

/-- THE SECOND FORM's CARD OF 'tumblerlaw10.FlushRecords'. -/
def flushRecordsUptoCard : Claim7 := { stood := { row := flushRecordsUptoRow, standIns := [], harness := (true, "e907aad57f490e06ad449e412c9a227f47a3079990c089b0ff990e2eebd0b731"), looks := false }, kinds := [], alts := [], laidByText := true, laidKinds := [.data, .data, .data, .data, .pinned], laidTests := true, laidLooks := .later }
def FlushRecordsUptoCardSaid : Prop := Claim7.holds Tryz.pinned (.plain (OpenSpec.upto flushRecordsSpec)) flushRecordsUptoCard

/-- THE SECOND FORM's CARD OF 'tumblerlaw10.FlushRises'. -/
def flushRisesUptoCard : Claim7 := { stood := { row := flushRisesUptoRow, standIns := [], harness := (true, "e907aad57f490e06ad449e412c9a227f47a3079990c089b0ff990e2eebd0b731"), looks := false }, kinds := [], alts := [], laidByText := true, laidKinds := [.data, .data, .data, .data, .pinned], laidTests := true, laidLooks := .later }
def FlushRisesUptoCardSaid : Prop := Claim7.holds Tryz.pinned (.plain (OpenSpec.upto flushRisesSpec)) flushRisesUptoCard

/-- THE SECOND FORM's CARD OF 'tumblerlaw10.FlushApart'. -/
def flushApartUptoCard : Claim7 := { stood := { row := flushApartUptoRow, standIns := [], harness := (true, "e907aad57f490e06ad449e412c9a227f47a3079990c089b0ff990e2eebd0b731"), looks := false }, kinds := [], alts := [], laidByText := true, laidKinds := [.data, .data, .data, .data, .pinned], laidTests := true, laidLooks := .later }
def FlushApartUptoCardSaid : Prop := Claim7.holds Tryz.pinned (.plain (OpenSpec.upto flushApartSpec)) flushApartUptoCard

/-- THE SECOND FORM's CARD OF 'tumblerlaw10.FlushRates'. -/
def flushRatesUptoCard : Claim7 := { stood := { row := flushRatesUptoRow, standIns := [], harness := (true, "e907aad57f490e06ad449e412c9a227f47a3079990c089b0ff990e2eebd0b731"), looks := false }, kinds := [], alts := [], laidByText := true, laidKinds := [.data, .data, .data, .data, .pinned], laidTests := true, laidLooks := .later }
def FlushRatesUptoCardSaid : Prop := Claim7.holds Tryz.pinned (.plain (OpenSpec.upto flushRatesSpec)) flushRatesUptoCard

/-- THE SECOND FORM's CARD OF 'tumblerlaw10.FlushBins'. -/
def flushBinsUptoCard : Claim7 := { stood := { row := flushBinsUptoRow, standIns := [], harness := (true, "e907aad57f490e06ad449e412c9a227f47a3079990c089b0ff990e2eebd0b731"), looks := false }, kinds := [], alts := [], laidByText := true, laidKinds := [.data, .data, .data, .data, .pinned], laidTests := true, laidLooks := .later }
def FlushBinsUptoCardSaid : Prop := Claim7.holds Tryz.pinned (.plain (OpenSpec.upto flushBinsSpec)) flushBinsUptoCard

/-- THE SECOND FORM's CARD OF 'tumblerlaw10.FlushNone'. -/
def flushNoneUptoCard : Claim7 := { stood := { row := flushNoneUptoRow, standIns := [], harness := (true, "e907aad57f490e06ad449e412c9a227f47a3079990c089b0ff990e2eebd0b731"), looks := false }, kinds := [], alts := [], laidByText := true, laidKinds := [.data, .data, .data, .data, .pinned], laidTests := true, laidLooks := .later }
def FlushNoneUptoCardSaid : Prop := Claim7.holds Tryz.pinned (.plain (OpenSpec.upto flushNoneSpec)) flushNoneUptoCard

/-- THE SECOND FORM's CARD OF 'tumblerlaw10.FlushSets'. -/
def flushSetsUptoCard : Claim7 := { stood := { row := flushSetsUptoRow, standIns := [], harness := (true, "e907aad57f490e06ad449e412c9a227f47a3079990c089b0ff990e2eebd0b731"), looks := false }, kinds := [], alts := [], laidByText := true, laidKinds := [.data, .data, .data, .data, .pinned], laidTests := true, laidLooks := .later }
def FlushSetsUptoCardSaid : Prop := Claim7.holds Tryz.pinned (.plain (OpenSpec.upto flushSetsSpec)) flushSetsUptoCard
end Rows
end Go.Proofs.YtkocmbgpiidkdaaGreatDoor
