/-
  DERIVED. GIVEN WITH THE SEED: THE CARDS: each row of YtlmmdjaoikaceaaGreatDoorRows.lean that lists a variable, with what it lists TIED to the program's text (the seventh form; the later family's looks); each row that meets fmt, with fmt's text TOLD by the authors' own Lean function (tested against real Go, not proved from fmt's source: count such statements apart). THE CARD IS WHAT COUNTS. Prove the row's statement (the work); the ties are given (YtlmmdjaoikaceaaGreatDoorTie.lean); close each card by the builder's one call (the guide's Derived/Test/ToyasCard.lean, 'card_holds'). Laid BY PROGRAM, IN A SANDBOX (cutbox-door.mjs). By AI agents, Wed Nov 11 2026. No macro, syntax, notation, axiom, sorry.
-/
import Derived.Test.YtlmmdjaoikaceaaGreatDoorRows
import GoSem.ClaimSeven
namespace Go.Proofs.YtlmmdjaoikaceaaGreatDoor
namespace Rows

/-- THE TIED CARD OF 'inglenooklaw.HouseRuns'. -/
def houseRunsCard : Claim7 := { stood := { row := houseRunsRow, standIns := [], harness := (true, "7ca52aa66d741c7a3372d7a637e52cdb969646ace568273ab704de95dc361c96"), looks := true }, kinds := [], alts := [], laidByText := true, laidKinds := [.data, .data, .data, .data, .sentinel, .sentinel, .data, .data, .pinned], laidTests := true, laidLooks := .later }
def HouseRunsCardSaid : Prop := Claim7.holds Tryz.pinned (.plain (OpenSpec.ofChange houseRunsSpec)) houseRunsCard

/-- THE TIED CARD OF 'inglenooklaw.HousePlays'. -/
def housePlaysCard : Claim7 := { stood := { row := housePlaysRow, standIns := [], harness := (true, "7ca52aa66d741c7a3372d7a637e52cdb969646ace568273ab704de95dc361c96"), looks := true }, kinds := [], alts := [], laidByText := true, laidKinds := [.data, .data, .data, .data, .sentinel, .sentinel, .data, .data, .pinned], laidTests := true, laidLooks := .later }
def HousePlaysCardSaid : Prop := Claim7.holds Tryz.pinned (.plain (OpenSpec.ofChange housePlaysSpec)) housePlaysCard

/-- THE SECOND FORM's CARD OF 'inglenooklaw.HouseRuns'. -/
def houseRunsUptoCard : Claim7 := { stood := { row := houseRunsUptoRow, standIns := [], harness := (true, "7ca52aa66d741c7a3372d7a637e52cdb969646ace568273ab704de95dc361c96"), looks := true }, kinds := [], alts := [], laidByText := true, laidKinds := [.data, .data, .data, .data, .sentinel, .sentinel, .data, .data, .pinned], laidTests := true, laidLooks := .later }
def HouseRunsUptoCardSaid : Prop := Claim7.holds Tryz.pinned (.plain (OpenSpec.upto houseRunsSpec)) houseRunsUptoCard

/-- THE SECOND FORM's CARD OF 'inglenooklaw.HousePlays'. -/
def housePlaysUptoCard : Claim7 := { stood := { row := housePlaysUptoRow, standIns := [], harness := (true, "7ca52aa66d741c7a3372d7a637e52cdb969646ace568273ab704de95dc361c96"), looks := true }, kinds := [], alts := [], laidByText := true, laidKinds := [.data, .data, .data, .data, .sentinel, .sentinel, .data, .data, .pinned], laidTests := true, laidLooks := .later }
def HousePlaysUptoCardSaid : Prop := Claim7.holds Tryz.pinned (.plain (OpenSpec.upto housePlaysSpec)) housePlaysUptoCard
end Rows
end Go.Proofs.YtlmmdjaoikaceaaGreatDoor
