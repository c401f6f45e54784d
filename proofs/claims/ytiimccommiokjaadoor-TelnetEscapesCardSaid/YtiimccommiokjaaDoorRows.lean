/-
  NARROWER THAN 'FOR EVERY INPUT', by the rows' own cells (each row's printed sentence says how): PagerTells: laid · PagerShows: laid · TelnetFeeds: laid · TelnetEscapes: laid.
  DERIVED. THE GIVEN ROWS OF THIS SEAT. 4 by the template 'for every input the law returns true; each argument reads behind the call as it read before'; 0 by the template 'total and deterministic' (their statements: YtiimccommiokjaaDoorTotals.lean).
  GIVEN WITH THE SEED: the statements are not yours to turn. If you find one false, say at which input.
  Laid BY PROGRAM, IN A SANDBOX (cutbox-rows.mjs): the forced cells as the released guide's own fill.sh prints them over the translation 0d36f7acbb8da230… (all of the seat's roots in one cut). By AI agents, Wed Nov 11 2026. No macro, syntax, notation, axiom, sorry.
-/
import Derived.Test.YtiimccommiokjaaDoorChecked
import GoSem.PinnedTables
import GoSem.Claim
import GoSem.ClaimJoined
import GoSem.ClaimMapViews
import Derived.JoinedTies
import Derived.KernelRfl
namespace Go.Proofs.YtiimccommiokjaaDoor
/- THE CELL 'sum', in the pinned program and in every row, IS THE sha256 OF THE DUMP (.gsa) THAT YtiimccommiokjaaDoorProg.lean LOADS. Nothing in Lean hashes anything: it is a label: what it is worth is what the hold of that sum in a sandbox is worth. -/
noncomputable def Tryd.pinned : Pinned := { name := "ytiimccommiokjaadoor", sum := "0d36f7acbb8da230a8ec63f316a4ea5310c2b229a3aeb25cf468a29969be7134", checked := Tryd.checked }
namespace Rows
def none {H : Type} : Left H := { results := [], args := [] }

/- WHAT THE LISTED PACKAGE-LEVEL VARIABLES READ AS WHEN THE CALL BEGINS. Each datum BY PROGRAM (the guide's laid-datum.mjs) off the statement by which the dump's own 'gosem.cut.vars' lays the variable. In a bare row this is a premise. The card (YtiimccommiokjaaDoorCards.lean) ties it to the program's text. -/
def laid_unicode_utf8_acceptRanges {H : Type} : DataW H := .agg [.agg [.lit (.int .u8 128), .lit (.int .u8 191)], .agg [.lit (.int .u8 160), .lit (.int .u8 191)], .agg [.lit (.int .u8 128), .lit (.int .u8 159)], .agg [.lit (.int .u8 144), .lit (.int .u8 191)], .agg [.lit (.int .u8 128), .lit (.int .u8 143)], .agg [.lit (.int .u8 0), .lit (.int .u8 0)], .agg [.lit (.int .u8 0), .lit (.int .u8 0)], .agg [.lit (.int .u8 0), .lit (.int .u8 0)], .agg [.lit (.int .u8 0), .lit (.int .u8 0)], .agg [.lit (.int .u8 0), .lit (.int .u8 0)], .agg [.lit (.int .u8 0), .lit (.int .u8 0)], .agg [.lit (.int .u8 0), .lit (.int .u8 0)], .agg [.lit (.int .u8 0), .lit (.int .u8 0)], .agg [.lit (.int .u8 0), .lit (.int .u8 0)], .agg [.lit (.int .u8 0), .lit (.int .u8 0)], .agg [.lit (.int .u8 0), .lit (.int .u8 0)]]
/-- One of Go's own tables, pinned by name: the form's constant. -/
def laid_unicode_utf8_first : DataW Unit := Go.Pinned.utf8First

/-- 'inglenooklaw.PagerTells': WHATEVER THE INPUT: true; the input reads as it did. -/
def pagerTellsSpec : ChangeSpec := { name := "pagerTells", fn := fun _ => fun
  | [d1, d2, d3] => { results := [.lit (.bool true)], args := [d1, d2, d3] }
  | _ => none }
def pagerTellsRow : OpenClaim := { program := "ytiimccommiokjaadoor", sum := "0d36f7acbb8da230a8ec63f316a4ea5310c2b229a3aeb25cf468a29969be7134", func := "inglenook/inglenooklaw.PagerTells", spec := "pagerTells", inPlace := ["internal/bytealg.CountString", "internal/bytealg.IndexByteString", "internal/bytealg.IndexString", "internal/abi.NoEscape", "internal/bytealg.MakeNoZero"], named := ["internal/bytealg.MaxLen", "unicode/utf8.first", "unicode/utf8.acceptRanges"], apart := false, laid := [("unicode/utf8.acceptRanges", laid_unicode_utf8_acceptRanges), ("unicode/utf8.first", laid_unicode_utf8_first)] }
def PagerTellsSaid : Prop := pagerTellsRow.holds Tryd.pinned (OpenSpec.ofChange pagerTellsSpec)

/-- ITS FALSE NEIGHBOUR: 'it returns false'. Refute it at one input. -/
def pagerTellsWrong : ChangeSpec := { name := "pagerTells", fn := fun _ => fun
  | [d1, d2, d3] => { results := [.lit (.bool false)], args := [d1, d2, d3] }
  | _ => none }
def PagerTellsWrongFalsely : Prop := pagerTellsRow.holds Tryd.pinned (OpenSpec.ofChange pagerTellsWrong)

/-- 'inglenookkeep.PagerShows': WHATEVER THE INPUT: true; the input reads as it did. -/
def pagerShowsSpec : ChangeSpec := { name := "pagerShows", fn := fun _ => fun
  | [d1, d2] => { results := [.lit (.bool true)], args := [d1, d2] }
  | _ => none }
def pagerShowsRow : OpenClaim := { program := "ytiimccommiokjaadoor", sum := "0d36f7acbb8da230a8ec63f316a4ea5310c2b229a3aeb25cf468a29969be7134", func := "inglenook/inglenookkeep.PagerShows", spec := "pagerShows", inPlace := ["internal/bytealg.CountString", "internal/bytealg.IndexByteString", "internal/bytealg.IndexString", "internal/abi.NoEscape", "internal/bytealg.MakeNoZero"], named := ["internal/bytealg.MaxLen", "unicode/utf8.first", "unicode/utf8.acceptRanges"], apart := false, laid := [("unicode/utf8.acceptRanges", laid_unicode_utf8_acceptRanges), ("unicode/utf8.first", laid_unicode_utf8_first)] }
def PagerShowsSaid : Prop := pagerShowsRow.holds Tryd.pinned (OpenSpec.ofChange pagerShowsSpec)

/-- ITS FALSE NEIGHBOUR: 'it returns false'. Refute it at one input. -/
def pagerShowsWrong : ChangeSpec := { name := "pagerShows", fn := fun _ => fun
  | [d1, d2] => { results := [.lit (.bool false)], args := [d1, d2] }
  | _ => none }
def PagerShowsWrongFalsely : Prop := pagerShowsRow.holds Tryd.pinned (OpenSpec.ofChange pagerShowsWrong)

/-- 'inglenooklaw.TelnetFeeds': WHATEVER THE INPUT: true; the input reads as it did. -/
def telnetFeedsSpec : ChangeSpec := { name := "telnetFeeds", fn := fun _ => fun
  | [d1, d2] => { results := [.lit (.bool true)], args := [d1, d2] }
  | _ => none }
def telnetFeedsRow : OpenClaim := { program := "ytiimccommiokjaadoor", sum := "0d36f7acbb8da230a8ec63f316a4ea5310c2b229a3aeb25cf468a29969be7134", func := "inglenook/inglenooklaw.TelnetFeeds", spec := "telnetFeeds", inPlace := ["internal/abi.NoEscape", "internal/bytealg.CountString", "internal/bytealg.IndexByteString", "internal/bytealg.IndexString", "internal/bytealg.MakeNoZero"], unfollowed := true, recurses := true, named := ["internal/bytealg.MaxLen", "unicode/utf8.first", "unicode/utf8.acceptRanges"], apart := false, laid := [("unicode/utf8.acceptRanges", laid_unicode_utf8_acceptRanges), ("unicode/utf8.first", laid_unicode_utf8_first)] }
def TelnetFeedsSaid : Prop := telnetFeedsRow.holds Tryd.pinned (OpenSpec.ofChange telnetFeedsSpec)

/-- ITS FALSE NEIGHBOUR: 'it returns false'. Refute it at one input. -/
def telnetFeedsWrong : ChangeSpec := { name := "telnetFeeds", fn := fun _ => fun
  | [d1, d2] => { results := [.lit (.bool false)], args := [d1, d2] }
  | _ => none }
def TelnetFeedsWrongFalsely : Prop := telnetFeedsRow.holds Tryd.pinned (OpenSpec.ofChange telnetFeedsWrong)

/-- 'inglenookkeep.TelnetEscapes': WHATEVER THE INPUT: true; the input reads as it did. -/
def telnetEscapesSpec : ChangeSpec := { name := "telnetEscapes", fn := fun _ => fun
  | [d1, d2] => { results := [.lit (.bool true)], args := [d1, d2] }
  | _ => none }
def telnetEscapesRow : OpenClaim := { program := "ytiimccommiokjaadoor", sum := "0d36f7acbb8da230a8ec63f316a4ea5310c2b229a3aeb25cf468a29969be7134", func := "inglenook/inglenookkeep.TelnetEscapes", spec := "telnetEscapes", inPlace := ["internal/abi.NoEscape", "internal/bytealg.CountString", "internal/bytealg.IndexByteString", "internal/bytealg.IndexString", "internal/bytealg.MakeNoZero"], named := ["internal/bytealg.MaxLen", "unicode/utf8.first", "unicode/utf8.acceptRanges"], apart := false, laid := [("unicode/utf8.acceptRanges", laid_unicode_utf8_acceptRanges), ("unicode/utf8.first", laid_unicode_utf8_first)] }
def TelnetEscapesSaid : Prop := telnetEscapesRow.holds Tryd.pinned (OpenSpec.ofChange telnetEscapesSpec)

/-- ITS FALSE NEIGHBOUR: 'it returns false'. Refute it at one input. -/
def telnetEscapesWrong : ChangeSpec := { name := "telnetEscapes", fn := fun _ => fun
  | [d1, d2] => { results := [.lit (.bool false)], args := [d1, d2] }
  | _ => none }
def TelnetEscapesWrongFalsely : Prop := telnetEscapesRow.holds Tryd.pinned (OpenSpec.ofChange telnetEscapesWrong)

/- THE SECOND FORM. 'bulk': how many values and letters a reading holds, each counted each time it is reached (what is shared counts as often as it is met; a slice's spare places count too). A statement '..UptoSaid' is the law's where the arguments, and the package variables that the reading takes, are together of bulk at most 1048576: NARROWER than '..Said'. Prove '..Said' where nothing that the law and all that it calls make is longer than what came in: it says more and counts as full. Else prove '..UptoSaid'. A law counts once. -/
mutual
def uptoBulk {H : Type} : DataW H → Nat
  | .lit (.string bytes) => bytes.length + 1
  | .lit _ => 1
  | .nil => 1
  | .ptr d => uptoBulk d + 1
  | .slice elems spare => uptoBulkAll elems + uptoBulkAll spare + 1
  | .agg parts => uptoBulkAll parts + 1
  | .iface _ d => uptoBulk d + 1
  | .map entries => uptoBulkEntries entries + 1
  | .held _ => 1
def uptoBulkAll {H : Type} : List (DataW H) → Nat
  | [] => 0
  | d :: r => uptoBulk d + uptoBulkAll r
def uptoBulkEntries {H : Type} : List (Lit × DataW H) → Nat
  | [] => 0
  | x :: r => uptoBulkEntry x + uptoBulkEntries r
def uptoBulkEntry {H : Type} : Lit × DataW H → Nat
  | (.string bytes, d) => bytes.length + uptoBulk d + 1
  | (_, d) => uptoBulk d + 1
 end
def uptoSmall : (H : Type) → List (DataW H) → Bool := fun _ ds => decide (uptoBulkAll ds ≤ 1048576)
def OpenSpec.upto (s : _root_.Go.ChangeSpec) : _root_.Go.OpenSpec := { _root_.Go.OpenSpec.ofChange s with cond := some uptoSmall }

/-- 'inglenooklaw.PagerTells', WHERE WHAT IT READS IS OF BULK AT MOST 1048576: true; the input reads as it did. -/
def pagerTellsUptoRow : OpenClaim := { program := "ytiimccommiokjaadoor", sum := "0d36f7acbb8da230a8ec63f316a4ea5310c2b229a3aeb25cf468a29969be7134", func := "inglenook/inglenooklaw.PagerTells", spec := "pagerTells", inPlace := ["internal/bytealg.CountString", "internal/bytealg.IndexByteString", "internal/bytealg.IndexString", "internal/abi.NoEscape", "internal/bytealg.MakeNoZero"], named := ["internal/bytealg.MaxLen", "unicode/utf8.first", "unicode/utf8.acceptRanges"], apart := false, laid := [("unicode/utf8.acceptRanges", laid_unicode_utf8_acceptRanges), ("unicode/utf8.first", laid_unicode_utf8_first)], narrowed := true }
def PagerTellsUptoSaid : Prop := pagerTellsUptoRow.holds Tryd.pinned (OpenSpec.upto pagerTellsSpec)

/-- 'inglenookkeep.PagerShows', WHERE WHAT IT READS IS OF BULK AT MOST 1048576: true; the input reads as it did. -/
def pagerShowsUptoRow : OpenClaim := { program := "ytiimccommiokjaadoor", sum := "0d36f7acbb8da230a8ec63f316a4ea5310c2b229a3aeb25cf468a29969be7134", func := "inglenook/inglenookkeep.PagerShows", spec := "pagerShows", inPlace := ["internal/bytealg.CountString", "internal/bytealg.IndexByteString", "internal/bytealg.IndexString", "internal/abi.NoEscape", "internal/bytealg.MakeNoZero"], named := ["internal/bytealg.MaxLen", "unicode/utf8.first", "unicode/utf8.acceptRanges"], apart := false, laid := [("unicode/utf8.acceptRanges", laid_unicode_utf8_acceptRanges), ("unicode/utf8.first", laid_unicode_utf8_first)], narrowed := true }
def PagerShowsUptoSaid : Prop := pagerShowsUptoRow.holds Tryd.pinned (OpenSpec.upto pagerShowsSpec)

/-- 'inglenooklaw.TelnetFeeds', WHERE WHAT IT READS IS OF BULK AT MOST 1048576: true; the input reads as it did. -/
def telnetFeedsUptoRow : OpenClaim := { program := "ytiimccommiokjaadoor", sum := "0d36f7acbb8da230a8ec63f316a4ea5310c2b229a3aeb25cf468a29969be7134", func := "inglenook/inglenooklaw.TelnetFeeds", spec := "telnetFeeds", inPlace := ["internal/abi.NoEscape", "internal/bytealg.CountString", "internal/bytealg.IndexByteString", "internal/bytealg.IndexString", "internal/bytealg.MakeNoZero"], unfollowed := true, recurses := true, named := ["internal/bytealg.MaxLen", "unicode/utf8.first", "unicode/utf8.acceptRanges"], apart := false, laid := [("unicode/utf8.acceptRanges", laid_unicode_utf8_acceptRanges), ("unicode/utf8.first", laid_unicode_utf8_first)], narrowed := true }
def TelnetFeedsUptoSaid : Prop := telnetFeedsUptoRow.holds Tryd.pinned (OpenSpec.upto telnetFeedsSpec)

/-- 'inglenookkeep.TelnetEscapes', WHERE WHAT IT READS IS OF BULK AT MOST 1048576: true; the input reads as it did. -/
def telnetEscapesUptoRow : OpenClaim := { program := "ytiimccommiokjaadoor", sum := "0d36f7acbb8da230a8ec63f316a4ea5310c2b229a3aeb25cf468a29969be7134", func := "inglenook/inglenookkeep.TelnetEscapes", spec := "telnetEscapes", inPlace := ["internal/abi.NoEscape", "internal/bytealg.CountString", "internal/bytealg.IndexByteString", "internal/bytealg.IndexString", "internal/bytealg.MakeNoZero"], named := ["internal/bytealg.MaxLen", "unicode/utf8.first", "unicode/utf8.acceptRanges"], apart := false, laid := [("unicode/utf8.acceptRanges", laid_unicode_utf8_acceptRanges), ("unicode/utf8.first", laid_unicode_utf8_first)], narrowed := true }
def TelnetEscapesUptoSaid : Prop := telnetEscapesUptoRow.holds Tryd.pinned (OpenSpec.upto telnetEscapesSpec)

end Rows
end Go.Proofs.YtiimccommiokjaaDoor
