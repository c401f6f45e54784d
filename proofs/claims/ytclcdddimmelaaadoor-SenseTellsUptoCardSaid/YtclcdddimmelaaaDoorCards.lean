/-
  DERIVED. GIVEN WITH THE SEED: THE CARDS: each row of YtclcdddimmelaaaDoorRows.lean that lists a variable, with what it lists TIED to the program's text (the seventh form; the later family's looks); each row that meets fmt, with fmt's text TOLD by the authors' own Lean function (tested against real Go, not proved from fmt's source: count such statements apart). THE CARD IS WHAT COUNTS. Prove the row's statement (the work); the ties are given (YtclcdddimmelaaaDoorTie.lean); close each card by the builder's one call (the guide's Derived/Test/ToyasCard.lean, 'card_holds'). Laid BY PROGRAM, IN A SANDBOX (cutbox-door.mjs). By AI agents, Wed Nov 11 2026. No macro, syntax, notation, axiom, sorry.
-/
import Derived.Test.YtclcdddimmelaaaDoorRows
import GoSem.ClaimSeven
namespace Go.Proofs.YtclcdddimmelaaaDoor
namespace Rows

/-- THE TIED CARD OF 'inglenooklaw.SensePerceives'. -/
def sensePerceivesCard : Claim7 := { stood := { row := sensePerceivesRow, standIns := [], harness := (true, "d15d87f72244c1f7d551b567427d80980dfc5de9bdb9aa4cadbd89a135ec6d23"), looks := false }, kinds := [], alts := [], laidByText := true, laidKinds := [.data, .data, .data, .data], laidTests := true, laidLooks := .later }
def SensePerceivesCardSaid : Prop := Claim7.holds Tryd.pinned (.plain (OpenSpec.ofChange sensePerceivesSpec)) sensePerceivesCard

/-- THE TIED CARD OF 'inglenooklaw.SenseTells'. -/
def senseTellsCard : Claim7 := { stood := { row := senseTellsRow, standIns := [], harness := (true, "d15d87f72244c1f7d551b567427d80980dfc5de9bdb9aa4cadbd89a135ec6d23"), looks := false }, kinds := [], alts := [], laidByText := true, laidKinds := [.data, .data, .data, .data, .data], laidTests := true, laidLooks := .later }
def SenseTellsCardSaid : Prop := Claim7.holds Tryd.pinned (.plain (OpenSpec.ofChange senseTellsSpec)) senseTellsCard

/-- THE TIED CARD OF 'inglenookkeep.SenseNames'. -/
def senseNamesCard : Claim7 := { stood := { row := senseNamesRow, standIns := [], harness := (true, "d15d87f72244c1f7d551b567427d80980dfc5de9bdb9aa4cadbd89a135ec6d23"), looks := false }, kinds := [], alts := [], laidByText := true, laidKinds := [.data, .data, .data, .data], laidTests := true, laidLooks := .later }
def SenseNamesCardSaid : Prop := Claim7.holds Tryd.pinned (.plain (OpenSpec.ofChange senseNamesSpec)) senseNamesCard

/-- THE TIED CARD OF 'inglenookkeep.SenseRooms'. -/
def senseRoomsCard : Claim7 := { stood := { row := senseRoomsRow, standIns := [], harness := (true, "d15d87f72244c1f7d551b567427d80980dfc5de9bdb9aa4cadbd89a135ec6d23"), looks := false }, kinds := [], alts := [], laidByText := true, laidKinds := [.data, .data, .data, .data], laidTests := true, laidLooks := .later }
def SenseRoomsCardSaid : Prop := Claim7.holds Tryd.pinned (.plain (OpenSpec.ofChange senseRoomsSpec)) senseRoomsCard

/-- THE TIED CARD OF 'inglenookkeep.SenseSees'. -/
def senseSeesCard : Claim7 := { stood := { row := senseSeesRow, standIns := [], harness := (true, "d15d87f72244c1f7d551b567427d80980dfc5de9bdb9aa4cadbd89a135ec6d23"), looks := false }, kinds := [], alts := [], laidByText := true, laidKinds := [.data, .data, .data, .data], laidTests := true, laidLooks := .later }
def SenseSeesCardSaid : Prop := Claim7.holds Tryd.pinned (.plain (OpenSpec.ofChange senseSeesSpec)) senseSeesCard

/-- THE SECOND FORM's CARD OF 'inglenooklaw.SensePerceives'. -/
def sensePerceivesUptoCard : Claim7 := { stood := { row := sensePerceivesUptoRow, standIns := [], harness := (true, "d15d87f72244c1f7d551b567427d80980dfc5de9bdb9aa4cadbd89a135ec6d23"), looks := false }, kinds := [], alts := [], laidByText := true, laidKinds := [.data, .data, .data, .data], laidTests := true, laidLooks := .later }
def SensePerceivesUptoCardSaid : Prop := Claim7.holds Tryd.pinned (.plain (OpenSpec.upto sensePerceivesSpec)) sensePerceivesUptoCard

/-- THE SECOND FORM's CARD OF 'inglenooklaw.SenseTells'. -/
def senseTellsUptoCard : Claim7 := { stood := { row := senseTellsUptoRow, standIns := [], harness := (true, "d15d87f72244c1f7d551b567427d80980dfc5de9bdb9aa4cadbd89a135ec6d23"), looks := false }, kinds := [], alts := [], laidByText := true, laidKinds := [.data, .data, .data, .data, .data], laidTests := true, laidLooks := .later }
def SenseTellsUptoCardSaid : Prop := Claim7.holds Tryd.pinned (.plain (OpenSpec.upto senseTellsSpec)) senseTellsUptoCard

/-- THE SECOND FORM's CARD OF 'inglenookkeep.SenseNames'. -/
def senseNamesUptoCard : Claim7 := { stood := { row := senseNamesUptoRow, standIns := [], harness := (true, "d15d87f72244c1f7d551b567427d80980dfc5de9bdb9aa4cadbd89a135ec6d23"), looks := false }, kinds := [], alts := [], laidByText := true, laidKinds := [.data, .data, .data, .data], laidTests := true, laidLooks := .later }
def SenseNamesUptoCardSaid : Prop := Claim7.holds Tryd.pinned (.plain (OpenSpec.upto senseNamesSpec)) senseNamesUptoCard

/-- THE SECOND FORM's CARD OF 'inglenookkeep.SenseRooms'. -/
def senseRoomsUptoCard : Claim7 := { stood := { row := senseRoomsUptoRow, standIns := [], harness := (true, "d15d87f72244c1f7d551b567427d80980dfc5de9bdb9aa4cadbd89a135ec6d23"), looks := false }, kinds := [], alts := [], laidByText := true, laidKinds := [.data, .data, .data, .data], laidTests := true, laidLooks := .later }
def SenseRoomsUptoCardSaid : Prop := Claim7.holds Tryd.pinned (.plain (OpenSpec.upto senseRoomsSpec)) senseRoomsUptoCard

/-- THE SECOND FORM's CARD OF 'inglenookkeep.SenseSees'. -/
def senseSeesUptoCard : Claim7 := { stood := { row := senseSeesUptoRow, standIns := [], harness := (true, "d15d87f72244c1f7d551b567427d80980dfc5de9bdb9aa4cadbd89a135ec6d23"), looks := false }, kinds := [], alts := [], laidByText := true, laidKinds := [.data, .data, .data, .data], laidTests := true, laidLooks := .later }
def SenseSeesUptoCardSaid : Prop := Claim7.holds Tryd.pinned (.plain (OpenSpec.upto senseSeesSpec)) senseSeesUptoCard
end Rows
end Go.Proofs.YtclcdddimmelaaaDoor
