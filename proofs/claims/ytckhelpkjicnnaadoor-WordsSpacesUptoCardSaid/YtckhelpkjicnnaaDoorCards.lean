/-
  DERIVED. GIVEN WITH THE SEED: THE CARDS: each row of YtckhelpkjicnnaaDoorRows.lean that lists a variable, with what it lists TIED to the program's text (the seventh form; the later family's looks); each row that meets fmt, with fmt's text TOLD by the authors' own Lean function (tested against real Go, not proved from fmt's source: count such statements apart). THE CARD IS WHAT COUNTS. Prove the row's statement (the work); the ties are given (YtckhelpkjicnnaaDoorTie.lean); close each card by the builder's one call (the guide's Derived/Test/ToyasCard.lean, 'card_holds'). Laid BY PROGRAM, IN A SANDBOX (cutbox-door.mjs). By AI agents, Wed Nov 11 2026. No macro, syntax, notation, axiom, sorry.
-/
import Derived.Test.YtckhelpkjicnnaaDoorRows
import GoSem.ClaimSeven
namespace Go.Proofs.YtckhelpkjicnnaaDoor
namespace Rows

/-- THE TIED CARD OF 'inglenooklaw.WordsParses'. -/
def wordsParsesCard : Claim7 := { stood := { row := wordsParsesRow, standIns := [], harness := (true, "761387e441be961f558adc405b49e36909cff2daa51fd9f1f212fb0b1d8c631c"), looks := true }, kinds := [], alts := [], laidByText := true, laidKinds := [.data, .data, .data, .data, .sentinel, .sentinel, .data, .data, .pinned], laidTests := true, laidLooks := .later }
def WordsParsesCardSaid : Prop := Claim7.holds Tryd.pinned (.plain (OpenSpec.ofChange wordsParsesSpec)) wordsParsesCard

/-- THE TIED CARD OF 'inglenookkeep.WordsShort'. -/
def wordsShortCard : Claim7 := { stood := { row := wordsShortRow, standIns := [], harness := (true, "761387e441be961f558adc405b49e36909cff2daa51fd9f1f212fb0b1d8c631c"), looks := true }, kinds := [], alts := [], laidByText := true, laidKinds := [.data, .data, .data, .data, .sentinel, .sentinel, .data, .pinned], laidTests := true, laidLooks := .later }
def WordsShortCardSaid : Prop := Claim7.holds Tryd.pinned (.plain (OpenSpec.ofChange wordsShortSpec)) wordsShortCard

/-- THE TIED CARD OF 'inglenookkeep.WordsSpaces'. -/
def wordsSpacesCard : Claim7 := { stood := { row := wordsSpacesRow, standIns := [], harness := (true, "761387e441be961f558adc405b49e36909cff2daa51fd9f1f212fb0b1d8c631c"), looks := true }, kinds := [], alts := [], laidByText := true, laidKinds := [.data, .data, .data, .data, .sentinel, .sentinel, .data, .pinned], laidTests := true, laidLooks := .later }
def WordsSpacesCardSaid : Prop := Claim7.holds Tryd.pinned (.plain (OpenSpec.ofChange wordsSpacesSpec)) wordsSpacesCard

/-- THE TIED CARD OF 'inglenookkeep.WordsGood'. -/
def wordsGoodCard : Claim7 := { stood := { row := wordsGoodRow, standIns := [], harness := (true, "761387e441be961f558adc405b49e36909cff2daa51fd9f1f212fb0b1d8c631c"), looks := true }, kinds := [], alts := [], laidByText := true, laidKinds := [.data, .data, .data, .data, .sentinel, .sentinel, .data, .pinned], laidTests := true, laidLooks := .later }
def WordsGoodCardSaid : Prop := Claim7.holds Tryd.pinned (.plain (OpenSpec.ofChange wordsGoodSpec)) wordsGoodCard

/-- THE TIED CARD OF 'inglenooklaw.WordsMeans'. -/
def wordsMeansCard : Claim7 := { stood := { row := wordsMeansRow, standIns := [], harness := (true, "761387e441be961f558adc405b49e36909cff2daa51fd9f1f212fb0b1d8c631c"), looks := true }, kinds := [], alts := [], laidByText := true, laidKinds := [.data, .data, .data, .data, .sentinel, .sentinel, .data, .data, .pinned], laidTests := true, laidLooks := .later }
def WordsMeansCardSaid : Prop := Claim7.holds Tryd.pinned (.plain (OpenSpec.ofChange wordsMeansSpec)) wordsMeansCard

/-- THE SECOND FORM's CARD OF 'inglenooklaw.WordsParses'. -/
def wordsParsesUptoCard : Claim7 := { stood := { row := wordsParsesUptoRow, standIns := [], harness := (true, "761387e441be961f558adc405b49e36909cff2daa51fd9f1f212fb0b1d8c631c"), looks := true }, kinds := [], alts := [], laidByText := true, laidKinds := [.data, .data, .data, .data, .sentinel, .sentinel, .data, .data, .pinned], laidTests := true, laidLooks := .later }
def WordsParsesUptoCardSaid : Prop := Claim7.holds Tryd.pinned (.plain (OpenSpec.upto wordsParsesSpec)) wordsParsesUptoCard

/-- THE SECOND FORM's CARD OF 'inglenookkeep.WordsShort'. -/
def wordsShortUptoCard : Claim7 := { stood := { row := wordsShortUptoRow, standIns := [], harness := (true, "761387e441be961f558adc405b49e36909cff2daa51fd9f1f212fb0b1d8c631c"), looks := true }, kinds := [], alts := [], laidByText := true, laidKinds := [.data, .data, .data, .data, .sentinel, .sentinel, .data, .pinned], laidTests := true, laidLooks := .later }
def WordsShortUptoCardSaid : Prop := Claim7.holds Tryd.pinned (.plain (OpenSpec.upto wordsShortSpec)) wordsShortUptoCard

/-- THE SECOND FORM's CARD OF 'inglenookkeep.WordsSpaces'. -/
def wordsSpacesUptoCard : Claim7 := { stood := { row := wordsSpacesUptoRow, standIns := [], harness := (true, "761387e441be961f558adc405b49e36909cff2daa51fd9f1f212fb0b1d8c631c"), looks := true }, kinds := [], alts := [], laidByText := true, laidKinds := [.data, .data, .data, .data, .sentinel, .sentinel, .data, .pinned], laidTests := true, laidLooks := .later }
def WordsSpacesUptoCardSaid : Prop := Claim7.holds Tryd.pinned (.plain (OpenSpec.upto wordsSpacesSpec)) wordsSpacesUptoCard

/-- THE SECOND FORM's CARD OF 'inglenookkeep.WordsGood'. -/
def wordsGoodUptoCard : Claim7 := { stood := { row := wordsGoodUptoRow, standIns := [], harness := (true, "761387e441be961f558adc405b49e36909cff2daa51fd9f1f212fb0b1d8c631c"), looks := true }, kinds := [], alts := [], laidByText := true, laidKinds := [.data, .data, .data, .data, .sentinel, .sentinel, .data, .pinned], laidTests := true, laidLooks := .later }
def WordsGoodUptoCardSaid : Prop := Claim7.holds Tryd.pinned (.plain (OpenSpec.upto wordsGoodSpec)) wordsGoodUptoCard

/-- THE SECOND FORM's CARD OF 'inglenooklaw.WordsMeans'. -/
def wordsMeansUptoCard : Claim7 := { stood := { row := wordsMeansUptoRow, standIns := [], harness := (true, "761387e441be961f558adc405b49e36909cff2daa51fd9f1f212fb0b1d8c631c"), looks := true }, kinds := [], alts := [], laidByText := true, laidKinds := [.data, .data, .data, .data, .sentinel, .sentinel, .data, .data, .pinned], laidTests := true, laidLooks := .later }
def WordsMeansUptoCardSaid : Prop := Claim7.holds Tryd.pinned (.plain (OpenSpec.upto wordsMeansSpec)) wordsMeansUptoCard
end Rows
end Go.Proofs.YtckhelpkjicnnaaDoor
