/-
  DERIVED. GIVEN WITH THE SEED: THE CARDS: each row of YtifhebempfjcmaaDoorRows.lean that lists a variable, with what it lists TIED to the program's text (the seventh form; the later family's looks); each row that meets fmt, with fmt's text TOLD by the authors' own Lean function (tested against real Go, not proved from fmt's source: count such statements apart). THE CARD IS WHAT COUNTS. Prove the row's statement (the work); the ties are given (YtifhebempfjcmaaDoorTie.lean); close each card by the builder's one call (the guide's Derived/Test/ToyasCard.lean, 'card_holds'). Laid BY PROGRAM, IN A SANDBOX (cutbox-door.mjs). By AI agents, Wed Nov 11 2026. No macro, syntax, notation, axiom, sorry.
-/
import Derived.Test.YtifhebempfjcmaaDoorRows
import GoSem.ClaimSeven
namespace Go.Proofs.YtifhebempfjcmaaDoor
namespace Rows

/-- THE TIED CARD OF 'tumblerlaw10.FlushChecks'. -/
def flushChecksCard : Claim7 := { stood := { row := flushChecksRow, standIns := [], harness := (true, "4b6a505874ffd09f0ca6a284ca302a2863a4916ce3e76ace428d0b805453d580"), looks := false }, kinds := [], alts := [], laidByText := true, laidKinds := [.data, .pinned], laidTests := true, laidLooks := .later }
def FlushChecksCardSaid : Prop := Claim7.holds Tryd.pinned (.plain (OpenSpec.ofChange flushChecksSpec)) flushChecksCard

/-- THE TIED CARD OF 'tumblerlaw04.LineChecks'. -/
def lineChecksCard : Claim7 := { stood := { row := lineChecksRow, standIns := [], harness := (true, "4b6a505874ffd09f0ca6a284ca302a2863a4916ce3e76ace428d0b805453d580"), looks := false }, kinds := [], alts := [], laidByText := true, laidKinds := [.data, .pinned], laidTests := true, laidLooks := .later }
def LineChecksCardSaid : Prop := Claim7.holds Tryd.pinned (.plain (OpenSpec.ofChange lineChecksSpec)) lineChecksCard

/-- THE SECOND FORM's CARD OF 'tumblerlaw10.FlushChecks'. -/
def flushChecksUptoCard : Claim7 := { stood := { row := flushChecksUptoRow, standIns := [], harness := (true, "4b6a505874ffd09f0ca6a284ca302a2863a4916ce3e76ace428d0b805453d580"), looks := false }, kinds := [], alts := [], laidByText := true, laidKinds := [.data, .pinned], laidTests := true, laidLooks := .later }
def FlushChecksUptoCardSaid : Prop := Claim7.holds Tryd.pinned (.plain (OpenSpec.upto flushChecksSpec)) flushChecksUptoCard

/-- THE SECOND FORM's CARD OF 'tumblerlaw04.LineChecks'. -/
def lineChecksUptoCard : Claim7 := { stood := { row := lineChecksUptoRow, standIns := [], harness := (true, "4b6a505874ffd09f0ca6a284ca302a2863a4916ce3e76ace428d0b805453d580"), looks := false }, kinds := [], alts := [], laidByText := true, laidKinds := [.data, .pinned], laidTests := true, laidLooks := .later }
def LineChecksUptoCardSaid : Prop := Claim7.holds Tryd.pinned (.plain (OpenSpec.upto lineChecksSpec)) lineChecksUptoCard
end Rows
end Go.Proofs.YtifhebempfjcmaaDoor
