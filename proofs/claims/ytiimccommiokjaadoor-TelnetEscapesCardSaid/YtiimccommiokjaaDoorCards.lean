/-
  DERIVED. GIVEN WITH THE SEED: THE CARDS: each row of YtiimccommiokjaaDoorRows.lean that lists a variable, with what it lists TIED to the program's text (the seventh form; the later family's looks); each row that meets fmt, with fmt's text TOLD by the authors' own Lean function (tested against real Go, not proved from fmt's source: count such statements apart). THE CARD IS WHAT COUNTS. Prove the row's statement (the work); the ties are given (YtiimccommiokjaaDoorTie.lean); close each card by the builder's one call (the guide's Derived/Test/ToyasCard.lean, 'card_holds'). Laid BY PROGRAM, IN A SANDBOX (cutbox-door.mjs). By AI agents, Wed Nov 11 2026. No macro, syntax, notation, axiom, sorry.
-/
import Derived.Test.YtiimccommiokjaaDoorRows
import GoSem.ClaimSeven
namespace Go.Proofs.YtiimccommiokjaaDoor
namespace Rows

/-- THE TIED CARD OF 'inglenooklaw.PagerTells'. -/
def pagerTellsCard : Claim7 := { stood := { row := pagerTellsRow, standIns := [], harness := (true, "b085badfe752be0af326271a6a9a00f37a26ecb0907c921824b46db4e758305e"), looks := false }, kinds := [], alts := [], laidByText := true, laidKinds := [.data, .pinned], laidTests := true, laidLooks := .later }
def PagerTellsCardSaid : Prop := Claim7.holds Tryd.pinned (.plain (OpenSpec.ofChange pagerTellsSpec)) pagerTellsCard

/-- THE TIED CARD OF 'inglenookkeep.PagerShows'. -/
def pagerShowsCard : Claim7 := { stood := { row := pagerShowsRow, standIns := [], harness := (true, "b085badfe752be0af326271a6a9a00f37a26ecb0907c921824b46db4e758305e"), looks := false }, kinds := [], alts := [], laidByText := true, laidKinds := [.data, .pinned], laidTests := true, laidLooks := .later }
def PagerShowsCardSaid : Prop := Claim7.holds Tryd.pinned (.plain (OpenSpec.ofChange pagerShowsSpec)) pagerShowsCard

/-- THE TIED CARD OF 'inglenooklaw.TelnetFeeds'. -/
def telnetFeedsCard : Claim7 := { stood := { row := telnetFeedsRow, standIns := [], harness := (true, "b085badfe752be0af326271a6a9a00f37a26ecb0907c921824b46db4e758305e"), looks := false }, kinds := [], alts := [], laidByText := true, laidKinds := [.data, .pinned], laidTests := true, laidLooks := .later }
def TelnetFeedsCardSaid : Prop := Claim7.holds Tryd.pinned (.plain (OpenSpec.ofChange telnetFeedsSpec)) telnetFeedsCard

/-- THE TIED CARD OF 'inglenookkeep.TelnetEscapes'. -/
def telnetEscapesCard : Claim7 := { stood := { row := telnetEscapesRow, standIns := [], harness := (true, "b085badfe752be0af326271a6a9a00f37a26ecb0907c921824b46db4e758305e"), looks := false }, kinds := [], alts := [], laidByText := true, laidKinds := [.data, .pinned], laidTests := true, laidLooks := .later }
def TelnetEscapesCardSaid : Prop := Claim7.holds Tryd.pinned (.plain (OpenSpec.ofChange telnetEscapesSpec)) telnetEscapesCard

/-- THE SECOND FORM's CARD OF 'inglenooklaw.PagerTells'. -/
def pagerTellsUptoCard : Claim7 := { stood := { row := pagerTellsUptoRow, standIns := [], harness := (true, "b085badfe752be0af326271a6a9a00f37a26ecb0907c921824b46db4e758305e"), looks := false }, kinds := [], alts := [], laidByText := true, laidKinds := [.data, .pinned], laidTests := true, laidLooks := .later }
def PagerTellsUptoCardSaid : Prop := Claim7.holds Tryd.pinned (.plain (OpenSpec.upto pagerTellsSpec)) pagerTellsUptoCard

/-- THE SECOND FORM's CARD OF 'inglenookkeep.PagerShows'. -/
def pagerShowsUptoCard : Claim7 := { stood := { row := pagerShowsUptoRow, standIns := [], harness := (true, "b085badfe752be0af326271a6a9a00f37a26ecb0907c921824b46db4e758305e"), looks := false }, kinds := [], alts := [], laidByText := true, laidKinds := [.data, .pinned], laidTests := true, laidLooks := .later }
def PagerShowsUptoCardSaid : Prop := Claim7.holds Tryd.pinned (.plain (OpenSpec.upto pagerShowsSpec)) pagerShowsUptoCard

/-- THE SECOND FORM's CARD OF 'inglenooklaw.TelnetFeeds'. -/
def telnetFeedsUptoCard : Claim7 := { stood := { row := telnetFeedsUptoRow, standIns := [], harness := (true, "b085badfe752be0af326271a6a9a00f37a26ecb0907c921824b46db4e758305e"), looks := false }, kinds := [], alts := [], laidByText := true, laidKinds := [.data, .pinned], laidTests := true, laidLooks := .later }
def TelnetFeedsUptoCardSaid : Prop := Claim7.holds Tryd.pinned (.plain (OpenSpec.upto telnetFeedsSpec)) telnetFeedsUptoCard

/-- THE SECOND FORM's CARD OF 'inglenookkeep.TelnetEscapes'. -/
def telnetEscapesUptoCard : Claim7 := { stood := { row := telnetEscapesUptoRow, standIns := [], harness := (true, "b085badfe752be0af326271a6a9a00f37a26ecb0907c921824b46db4e758305e"), looks := false }, kinds := [], alts := [], laidByText := true, laidKinds := [.data, .pinned], laidTests := true, laidLooks := .later }
def TelnetEscapesUptoCardSaid : Prop := Claim7.holds Tryd.pinned (.plain (OpenSpec.upto telnetEscapesSpec)) telnetEscapesUptoCard
end Rows
end Go.Proofs.YtiimccommiokjaaDoor
