/-
  DERIVED. GIVEN WITH THE SEED: THE CARDS: each row of YthaobbemigbcgaaDoorRows.lean that lists a variable, with what it lists TIED to the program's text (the seventh form; the later family's looks); each row that meets fmt, with fmt's text TOLD by the authors' own Lean function (tested against real Go, not proved from fmt's source: count such statements apart). THE CARD IS WHAT COUNTS. Prove the row's statement (the work); the ties are given (YthaobbemigbcgaaDoorTie.lean); close each card by the builder's one call (the guide's Derived/Test/ToyasCard.lean, 'card_holds'). Laid BY PROGRAM, IN A SANDBOX (cutbox-door.mjs). By AI agents, Wed Nov 11 2026. No macro, syntax, notation, axiom, sorry.
-/
import Derived.Test.YthaobbemigbcgaaDoorRows
import GoSem.ClaimSeven
namespace Go.Proofs.YthaobbemigbcgaaDoor
namespace Rows

/-- THE TIED CARD OF 'inglenookkeep.RulesKeep'. -/
def rulesKeepCard : Claim7 := { stood := { row := rulesKeepRow, standIns := [], harness := (true, "73470318c01d13ea0aef7755489f1b08920d8ca479e2960f92b895a70a77a86f"), looks := true }, kinds := [], alts := [], laidByText := true, laidKinds := [.data, .data, .data, .sentinel, .sentinel, .data], laidTests := true, laidLooks := .later }
def RulesKeepCardSaid : Prop := Claim7.holds Tryd.pinned (.plain (OpenSpec.ofChange rulesKeepSpec)) rulesKeepCard

/-- THE TIED CARD OF 'inglenookkeep.RulesDoors'. -/
def rulesDoorsCard : Claim7 := { stood := { row := rulesDoorsRow, standIns := [], harness := (true, "73470318c01d13ea0aef7755489f1b08920d8ca479e2960f92b895a70a77a86f"), looks := true }, kinds := [], alts := [], laidByText := true, laidKinds := [.data, .data, .data, .sentinel, .sentinel, .data], laidTests := true, laidLooks := .later }
def RulesDoorsCardSaid : Prop := Claim7.holds Tryd.pinned (.plain (OpenSpec.ofChange rulesDoorsSpec)) rulesDoorsCard

/-- THE TIED CARD OF 'inglenookkeep.RulesLosses'. -/
def rulesLossesCard : Claim7 := { stood := { row := rulesLossesRow, standIns := [], harness := (true, "73470318c01d13ea0aef7755489f1b08920d8ca479e2960f92b895a70a77a86f"), looks := true }, kinds := [], alts := [], laidByText := true, laidKinds := [.data, .data, .data, .sentinel, .sentinel, .data], laidTests := true, laidLooks := .later }
def RulesLossesCardSaid : Prop := Claim7.holds Tryd.pinned (.plain (OpenSpec.ofChange rulesLossesSpec)) rulesLossesCard

/-- THE TIED CARD OF 'inglenookkeep.RulesFar'. -/
def rulesFarCard : Claim7 := { stood := { row := rulesFarRow, standIns := [], harness := (true, "73470318c01d13ea0aef7755489f1b08920d8ca479e2960f92b895a70a77a86f"), looks := true }, kinds := [], alts := [], laidByText := true, laidKinds := [.data, .data, .data, .sentinel, .sentinel, .data], laidTests := true, laidLooks := .later }
def RulesFarCardSaid : Prop := Claim7.holds Tryd.pinned (.plain (OpenSpec.ofChange rulesFarSpec)) rulesFarCard

/-- THE SECOND FORM's CARD OF 'inglenookkeep.RulesKeep'. -/
def rulesKeepUptoCard : Claim7 := { stood := { row := rulesKeepUptoRow, standIns := [], harness := (true, "73470318c01d13ea0aef7755489f1b08920d8ca479e2960f92b895a70a77a86f"), looks := true }, kinds := [], alts := [], laidByText := true, laidKinds := [.data, .data, .data, .sentinel, .sentinel, .data], laidTests := true, laidLooks := .later }
def RulesKeepUptoCardSaid : Prop := Claim7.holds Tryd.pinned (.plain (OpenSpec.upto rulesKeepSpec)) rulesKeepUptoCard

/-- THE SECOND FORM's CARD OF 'inglenookkeep.RulesDoors'. -/
def rulesDoorsUptoCard : Claim7 := { stood := { row := rulesDoorsUptoRow, standIns := [], harness := (true, "73470318c01d13ea0aef7755489f1b08920d8ca479e2960f92b895a70a77a86f"), looks := true }, kinds := [], alts := [], laidByText := true, laidKinds := [.data, .data, .data, .sentinel, .sentinel, .data], laidTests := true, laidLooks := .later }
def RulesDoorsUptoCardSaid : Prop := Claim7.holds Tryd.pinned (.plain (OpenSpec.upto rulesDoorsSpec)) rulesDoorsUptoCard

/-- THE SECOND FORM's CARD OF 'inglenookkeep.RulesLosses'. -/
def rulesLossesUptoCard : Claim7 := { stood := { row := rulesLossesUptoRow, standIns := [], harness := (true, "73470318c01d13ea0aef7755489f1b08920d8ca479e2960f92b895a70a77a86f"), looks := true }, kinds := [], alts := [], laidByText := true, laidKinds := [.data, .data, .data, .sentinel, .sentinel, .data], laidTests := true, laidLooks := .later }
def RulesLossesUptoCardSaid : Prop := Claim7.holds Tryd.pinned (.plain (OpenSpec.upto rulesLossesSpec)) rulesLossesUptoCard

/-- THE SECOND FORM's CARD OF 'inglenookkeep.RulesFar'. -/
def rulesFarUptoCard : Claim7 := { stood := { row := rulesFarUptoRow, standIns := [], harness := (true, "73470318c01d13ea0aef7755489f1b08920d8ca479e2960f92b895a70a77a86f"), looks := true }, kinds := [], alts := [], laidByText := true, laidKinds := [.data, .data, .data, .sentinel, .sentinel, .data], laidTests := true, laidLooks := .later }
def RulesFarUptoCardSaid : Prop := Claim7.holds Tryd.pinned (.plain (OpenSpec.upto rulesFarSpec)) rulesFarUptoCard
end Rows
end Go.Proofs.YthaobbemigbcgaaDoor
