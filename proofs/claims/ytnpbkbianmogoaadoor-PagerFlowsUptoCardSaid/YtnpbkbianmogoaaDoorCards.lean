/-
  DERIVED. GIVEN WITH THE SEED: THE CARDS: each row of YtnpbkbianmogoaaDoorRows.lean that lists a variable, with what it lists TIED to the program's text (the seventh form; the later family's looks); each row that meets fmt, with fmt's text TOLD by the authors' own Lean function (tested against real Go, not proved from fmt's source: count such statements apart). THE CARD IS WHAT COUNTS. Prove the row's statement (the work); the ties are given (YtnpbkbianmogoaaDoorTie.lean); close each card by the builder's one call (the guide's Derived/Test/ToyasCard.lean, 'card_holds'). Laid BY PROGRAM, IN A SANDBOX (cutbox-door.mjs). By AI agents, Wed Nov 11 2026. No macro, syntax, notation, axiom, sorry.
-/
import Derived.Test.YtnpbkbianmogoaaDoorRows
import GoSem.ClaimSeven
namespace Go.Proofs.YtnpbkbianmogoaaDoor
namespace Rows

/-- THE TIED CARD OF 'inglenooklaw.PagerFlows'. -/
def pagerFlowsCard : Claim7 := { stood := { row := pagerFlowsRow, standIns := [], harness := (true, "1a23025b9a5b6534b8a3c55a7da35a59fd473c31c081e3a509f4e4f1ed3c7e1a"), looks := false }, kinds := [], alts := [], laidByText := true, laidKinds := [.data, .pinned], laidTests := true, laidLooks := .later }
def PagerFlowsCardSaid : Prop := Claim7.holds Tryd.pinned (.plain (OpenSpec.ofChange pagerFlowsSpec)) pagerFlowsCard

/-- THE TIED CARD OF 'inglenookkeep.PagerTakes'. -/
def pagerTakesCard : Claim7 := { stood := { row := pagerTakesRow, standIns := [], harness := (true, "1a23025b9a5b6534b8a3c55a7da35a59fd473c31c081e3a509f4e4f1ed3c7e1a"), looks := false }, kinds := [], alts := [], laidByText := true, laidKinds := [.data, .pinned], laidTests := true, laidLooks := .later }
def PagerTakesCardSaid : Prop := Claim7.holds Tryd.pinned (.plain (OpenSpec.ofChange pagerTakesSpec)) pagerTakesCard

/-- THE SECOND FORM's CARD OF 'inglenooklaw.PagerFlows'. -/
def pagerFlowsUptoCard : Claim7 := { stood := { row := pagerFlowsUptoRow, standIns := [], harness := (true, "1a23025b9a5b6534b8a3c55a7da35a59fd473c31c081e3a509f4e4f1ed3c7e1a"), looks := false }, kinds := [], alts := [], laidByText := true, laidKinds := [.data, .pinned], laidTests := true, laidLooks := .later }
def PagerFlowsUptoCardSaid : Prop := Claim7.holds Tryd.pinned (.plain (OpenSpec.upto pagerFlowsSpec)) pagerFlowsUptoCard

/-- THE SECOND FORM's CARD OF 'inglenookkeep.PagerTakes'. -/
def pagerTakesUptoCard : Claim7 := { stood := { row := pagerTakesUptoRow, standIns := [], harness := (true, "1a23025b9a5b6534b8a3c55a7da35a59fd473c31c081e3a509f4e4f1ed3c7e1a"), looks := false }, kinds := [], alts := [], laidByText := true, laidKinds := [.data, .pinned], laidTests := true, laidLooks := .later }
def PagerTakesUptoCardSaid : Prop := Claim7.holds Tryd.pinned (.plain (OpenSpec.upto pagerTakesSpec)) pagerTakesUptoCard
end Rows
end Go.Proofs.YtnpbkbianmogoaaDoor
