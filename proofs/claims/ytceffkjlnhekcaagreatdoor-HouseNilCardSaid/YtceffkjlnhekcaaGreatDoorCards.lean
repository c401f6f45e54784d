/-
  DERIVED. GIVEN WITH THE SEED: THE CARDS: each row of YtceffkjlnhekcaaGreatDoorRows.lean that lists a variable, with what it lists TIED to the program's text (the seventh form; the later family's looks); each row that meets fmt, with fmt's text TOLD by the authors' own Lean function (tested against real Go, not proved from fmt's source: count such statements apart). THE CARD IS WHAT COUNTS. Prove the row's statement (the work); the ties are given (YtceffkjlnhekcaaGreatDoorTie.lean); close each card by the builder's one call (the guide's Derived/Test/ToyasCard.lean, 'card_holds'). Laid BY PROGRAM, IN A SANDBOX (cutbox-door.mjs). By AI agents, Wed Nov 11 2026. No macro, syntax, notation, axiom, sorry.
-/
import Derived.Test.YtceffkjlnhekcaaGreatDoorRows
import GoSem.ClaimSeven
namespace Go.Proofs.YtceffkjlnhekcaaGreatDoor
namespace Rows

/-- THE TIED CARD OF 'inglenooklaw.HouseNil'. -/
def houseNilCard : Claim7 := { stood := { row := houseNilRow, standIns := [], harness := (true, "79a0dcce5773ef490dc75b30b80dae948f679a65e50b1d755b33a55180bc6c55"), looks := true }, kinds := [], alts := [], laidByText := true, laidKinds := [.data, .data, .data, .data, .sentinel, .sentinel, .data, .pinned], laidTests := true, laidLooks := .later }
def HouseNilCardSaid : Prop := Claim7.holds Tryz.pinned (.plain (OpenSpec.ofChange houseNilSpec)) houseNilCard

/-- THE SECOND FORM's CARD OF 'inglenooklaw.HouseNil'. -/
def houseNilUptoCard : Claim7 := { stood := { row := houseNilUptoRow, standIns := [], harness := (true, "79a0dcce5773ef490dc75b30b80dae948f679a65e50b1d755b33a55180bc6c55"), looks := true }, kinds := [], alts := [], laidByText := true, laidKinds := [.data, .data, .data, .data, .sentinel, .sentinel, .data, .pinned], laidTests := true, laidLooks := .later }
def HouseNilUptoCardSaid : Prop := Claim7.holds Tryz.pinned (.plain (OpenSpec.upto houseNilSpec)) houseNilUptoCard
end Rows
end Go.Proofs.YtceffkjlnhekcaaGreatDoor
