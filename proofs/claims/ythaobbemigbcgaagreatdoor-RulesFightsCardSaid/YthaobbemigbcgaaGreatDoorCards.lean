/-
  DERIVED. GIVEN WITH THE SEED: THE CARDS: each row of YthaobbemigbcgaaGreatDoorRows.lean that lists a variable, with what it lists TIED to the program's text (the seventh form; the later family's looks); each row that meets fmt, with fmt's text TOLD by the authors' own Lean function (tested against real Go, not proved from fmt's source: count such statements apart). THE CARD IS WHAT COUNTS. Prove the row's statement (the work); the ties are given (YthaobbemigbcgaaGreatDoorTie.lean); close each card by the builder's one call (the guide's Derived/Test/ToyasCard.lean, 'card_holds'). Laid BY PROGRAM, IN A SANDBOX (cutbox-door.mjs). By AI agents, Wed Nov 11 2026. No macro, syntax, notation, axiom, sorry.
-/
import Derived.Test.YthaobbemigbcgaaGreatDoorRows
import GoSem.ClaimSeven
namespace Go.Proofs.YthaobbemigbcgaaGreatDoor
namespace Rows

/-- THE TIED CARD OF 'inglenooklaw.RulesEnters'. -/
def rulesEntersCard : Claim7 := { stood := { row := rulesEntersRow, standIns := [], harness := (true, "78807f93b3fd022e5a5a4008ac1cd4cd757b4975a3a0c4cfbde075a4edf6080e"), looks := true }, kinds := [], alts := [], laidByText := true, laidKinds := [.data, .data, .data, .sentinel, .sentinel, .data, .data], laidTests := true, laidLooks := .later }
def RulesEntersCardSaid : Prop := Claim7.holds Tryz.pinned (.plain (OpenSpec.ofChange rulesEntersSpec)) rulesEntersCard

/-- THE TIED CARD OF 'inglenooklaw.RulesFights'. -/
def rulesFightsCard : Claim7 := { stood := { row := rulesFightsRow, standIns := [], harness := (true, "78807f93b3fd022e5a5a4008ac1cd4cd757b4975a3a0c4cfbde075a4edf6080e"), looks := true }, kinds := [], alts := [], laidByText := true, laidKinds := [.data, .data, .data, .sentinel, .sentinel, .data, .data], laidTests := true, laidLooks := .later }
def RulesFightsCardSaid : Prop := Claim7.holds Tryz.pinned (.plain (OpenSpec.ofChange rulesFightsSpec)) rulesFightsCard

/-- THE TIED CARD OF 'inglenooklaw.RulesDoes'. -/
def rulesDoesCard : Claim7 := { stood := { row := rulesDoesRow, standIns := [], harness := (true, "78807f93b3fd022e5a5a4008ac1cd4cd757b4975a3a0c4cfbde075a4edf6080e"), looks := true }, kinds := [], alts := [], laidByText := true, laidKinds := [.data, .data, .data, .data, .sentinel, .sentinel, .data, .data, .pinned], laidTests := true, laidLooks := .later }
def RulesDoesCardSaid : Prop := Claim7.holds Tryz.pinned (.plain (OpenSpec.ofChange rulesDoesSpec)) rulesDoesCard

/-- THE SECOND FORM's CARD OF 'inglenooklaw.RulesEnters'. -/
def rulesEntersUptoCard : Claim7 := { stood := { row := rulesEntersUptoRow, standIns := [], harness := (true, "78807f93b3fd022e5a5a4008ac1cd4cd757b4975a3a0c4cfbde075a4edf6080e"), looks := true }, kinds := [], alts := [], laidByText := true, laidKinds := [.data, .data, .data, .sentinel, .sentinel, .data, .data], laidTests := true, laidLooks := .later }
def RulesEntersUptoCardSaid : Prop := Claim7.holds Tryz.pinned (.plain (OpenSpec.upto rulesEntersSpec)) rulesEntersUptoCard

/-- THE SECOND FORM's CARD OF 'inglenooklaw.RulesFights'. -/
def rulesFightsUptoCard : Claim7 := { stood := { row := rulesFightsUptoRow, standIns := [], harness := (true, "78807f93b3fd022e5a5a4008ac1cd4cd757b4975a3a0c4cfbde075a4edf6080e"), looks := true }, kinds := [], alts := [], laidByText := true, laidKinds := [.data, .data, .data, .sentinel, .sentinel, .data, .data], laidTests := true, laidLooks := .later }
def RulesFightsUptoCardSaid : Prop := Claim7.holds Tryz.pinned (.plain (OpenSpec.upto rulesFightsSpec)) rulesFightsUptoCard

/-- THE SECOND FORM's CARD OF 'inglenooklaw.RulesDoes'. -/
def rulesDoesUptoCard : Claim7 := { stood := { row := rulesDoesUptoRow, standIns := [], harness := (true, "78807f93b3fd022e5a5a4008ac1cd4cd757b4975a3a0c4cfbde075a4edf6080e"), looks := true }, kinds := [], alts := [], laidByText := true, laidKinds := [.data, .data, .data, .data, .sentinel, .sentinel, .data, .data, .pinned], laidTests := true, laidLooks := .later }
def RulesDoesUptoCardSaid : Prop := Claim7.holds Tryz.pinned (.plain (OpenSpec.upto rulesDoesSpec)) rulesDoesUptoCard
end Rows
end Go.Proofs.YthaobbemigbcgaaGreatDoor
