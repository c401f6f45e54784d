/-
  No cell of these rows narrows 'for every input' (looked for: loops, veiled, ifaces, maps, wideKeys, modest, calm, conditions, laid).
  DERIVED. THE GIVEN ROWS OF THIS SEAT. 10 by the template 'for every input the law returns true; each argument reads behind the call as it read before'; 0 by the template 'total and deterministic' (their statements: YtnpbkbianmogoaaTotals.lean).
  GIVEN WITH THE SEED: the statements are not yours to turn. If you find one false, say at which input.
  Laid BY PROGRAM, IN A SANDBOX (cutbox-rows.mjs): the forced cells as the released guide's own fill.sh prints them over the translation 5d7dbd4ecd6f3ff9… (all of the seat's roots in one cut). By AI agents, Wed Nov 11 2026. No macro, syntax, notation, axiom, sorry.
-/
import Derived.Test.YtnpbkbianmogoaaChecked
import GoSem.Claim
import GoSem.ClaimJoined
import GoSem.ClaimMapViews
import Derived.JoinedTies
import Derived.KernelRfl
namespace Go.Proofs.Ytnpbkbianmogoaa
/- THE CELL 'sum', in the pinned program and in every row, IS THE sha256 OF THE DUMP (.gsa) THAT YtnpbkbianmogoaaProg.lean LOADS. Nothing in Lean hashes anything: it is a label: what it is worth is what the hold of that sum in a sandbox is worth. -/
noncomputable def Try.pinned : Pinned := { name := "ytnpbkbianmogoaa", sum := "5d7dbd4ecd6f3ff9414327e31dd0bf70fb62ad2ba50c47f7b7ed6ce35dbacdc8", checked := Try.checked }
namespace Rows
def none {H : Type} : Left H := { results := [], args := [] }

/-- 'inglenooklaw.Names': WHATEVER THE INPUT: true; the input reads as it did. -/
def namesSpec : ChangeSpec := { name := "names", fn := fun _ => fun
  | [] => { results := [.lit (.bool true)], args := [] }
  | _ => none }
def namesRow : OpenClaim := { program := "ytnpbkbianmogoaa", sum := "5d7dbd4ecd6f3ff9414327e31dd0bf70fb62ad2ba50c47f7b7ed6ce35dbacdc8", func := "inglenook/inglenooklaw.Names", spec := "names", apart := false }
def NamesSaid : Prop := namesRow.holds Try.pinned (OpenSpec.ofChange namesSpec)

/-- ITS FALSE NEIGHBOUR: 'it returns false'. Refute it at one input. -/
def namesWrong : ChangeSpec := { name := "names", fn := fun _ => fun
  | [] => { results := [.lit (.bool false)], args := [] }
  | _ => none }
def NamesWrongFalsely : Prop := namesRow.holds Try.pinned (OpenSpec.ofChange namesWrong)

/-- 'inglenookkeep.LineParts': WHATEVER THE INPUT: true; the input reads as it did. -/
def linePartsSpec : ChangeSpec := { name := "lineParts", fn := fun _ => fun
  | [d1, d2, d3] => { results := [.lit (.bool true)], args := [d1, d2, d3] }
  | _ => none }
def linePartsRow : OpenClaim := { program := "ytnpbkbianmogoaa", sum := "5d7dbd4ecd6f3ff9414327e31dd0bf70fb62ad2ba50c47f7b7ed6ce35dbacdc8", func := "inglenook/inglenookkeep.LineParts", spec := "lineParts", apart := false }
def LinePartsSaid : Prop := linePartsRow.holds Try.pinned (OpenSpec.ofChange linePartsSpec)

/-- ITS FALSE NEIGHBOUR: 'it returns false'. Refute it at one input. -/
def linePartsWrong : ChangeSpec := { name := "lineParts", fn := fun _ => fun
  | [d1, d2, d3] => { results := [.lit (.bool false)], args := [d1, d2, d3] }
  | _ => none }
def LinePartsWrongFalsely : Prop := linePartsRow.holds Try.pinned (OpenSpec.ofChange linePartsWrong)

/-- 'inglenookkeep.LineErases': WHATEVER THE INPUT: true; the input reads as it did. -/
def lineErasesSpec : ChangeSpec := { name := "lineErases", fn := fun _ => fun
  | [d1, d2] => { results := [.lit (.bool true)], args := [d1, d2] }
  | _ => none }
def lineErasesRow : OpenClaim := { program := "ytnpbkbianmogoaa", sum := "5d7dbd4ecd6f3ff9414327e31dd0bf70fb62ad2ba50c47f7b7ed6ce35dbacdc8", func := "inglenook/inglenookkeep.LineErases", spec := "lineErases", apart := false }
def LineErasesSaid : Prop := lineErasesRow.holds Try.pinned (OpenSpec.ofChange lineErasesSpec)

/-- ITS FALSE NEIGHBOUR: 'it returns false'. Refute it at one input. -/
def lineErasesWrong : ChangeSpec := { name := "lineErases", fn := fun _ => fun
  | [d1, d2] => { results := [.lit (.bool false)], args := [d1, d2] }
  | _ => none }
def LineErasesWrongFalsely : Prop := lineErasesRow.holds Try.pinned (OpenSpec.ofChange lineErasesWrong)

/-- 'inglenooklaw.LineFeeds': WHATEVER THE INPUT: true; the input reads as it did. -/
def lineFeedsSpec : ChangeSpec := { name := "lineFeeds", fn := fun _ => fun
  | [d1, d2] => { results := [.lit (.bool true)], args := [d1, d2] }
  | _ => none }
def lineFeedsRow : OpenClaim := { program := "ytnpbkbianmogoaa", sum := "5d7dbd4ecd6f3ff9414327e31dd0bf70fb62ad2ba50c47f7b7ed6ce35dbacdc8", func := "inglenook/inglenooklaw.LineFeeds", spec := "lineFeeds", unfollowed := true, recurses := true, apart := false }
def LineFeedsSaid : Prop := lineFeedsRow.holds Try.pinned (OpenSpec.ofChange lineFeedsSpec)

/-- ITS FALSE NEIGHBOUR: 'it returns false'. Refute it at one input. -/
def lineFeedsWrong : ChangeSpec := { name := "lineFeeds", fn := fun _ => fun
  | [d1, d2] => { results := [.lit (.bool false)], args := [d1, d2] }
  | _ => none }
def LineFeedsWrongFalsely : Prop := lineFeedsRow.holds Try.pinned (OpenSpec.ofChange lineFeedsWrong)

/-- 'inglenookkeep.LineWhole': WHATEVER THE INPUT: true; the input reads as it did. -/
def lineWholeSpec : ChangeSpec := { name := "lineWhole", fn := fun _ => fun
  | [d1, d2] => { results := [.lit (.bool true)], args := [d1, d2] }
  | _ => none }
def lineWholeRow : OpenClaim := { program := "ytnpbkbianmogoaa", sum := "5d7dbd4ecd6f3ff9414327e31dd0bf70fb62ad2ba50c47f7b7ed6ce35dbacdc8", func := "inglenook/inglenookkeep.LineWhole", spec := "lineWhole", apart := false }
def LineWholeSaid : Prop := lineWholeRow.holds Try.pinned (OpenSpec.ofChange lineWholeSpec)

/-- ITS FALSE NEIGHBOUR: 'it returns false'. Refute it at one input. -/
def lineWholeWrong : ChangeSpec := { name := "lineWhole", fn := fun _ => fun
  | [d1, d2] => { results := [.lit (.bool false)], args := [d1, d2] }
  | _ => none }
def LineWholeWrongFalsely : Prop := lineWholeRow.holds Try.pinned (OpenSpec.ofChange lineWholeWrong)

/-- 'inglenookkeep.LandNests': WHATEVER THE INPUT: true; the input reads as it did. -/
def landNestsSpec : ChangeSpec := { name := "landNests", fn := fun _ => fun
  | [d1, d2, d3] => { results := [.lit (.bool true)], args := [d1, d2, d3] }
  | _ => none }
def landNestsRow : OpenClaim := { program := "ytnpbkbianmogoaa", sum := "5d7dbd4ecd6f3ff9414327e31dd0bf70fb62ad2ba50c47f7b7ed6ce35dbacdc8", func := "inglenook/inglenookkeep.LandNests", spec := "landNests", apart := false }
def LandNestsSaid : Prop := landNestsRow.holds Try.pinned (OpenSpec.ofChange landNestsSpec)

/-- ITS FALSE NEIGHBOUR: 'it returns false'. Refute it at one input. -/
def landNestsWrong : ChangeSpec := { name := "landNests", fn := fun _ => fun
  | [d1, d2, d3] => { results := [.lit (.bool false)], args := [d1, d2, d3] }
  | _ => none }
def LandNestsWrongFalsely : Prop := landNestsRow.holds Try.pinned (OpenSpec.ofChange landNestsWrong)

/-- 'inglenooklaw.LandStands': WHATEVER THE INPUT: true; the input reads as it did. -/
def landStandsSpec : ChangeSpec := { name := "landStands", fn := fun _ => fun
  | [d1, d2, d3, d4] => { results := [.lit (.bool true)], args := [d1, d2, d3, d4] }
  | _ => none }
def landStandsRow : OpenClaim := { program := "ytnpbkbianmogoaa", sum := "5d7dbd4ecd6f3ff9414327e31dd0bf70fb62ad2ba50c47f7b7ed6ce35dbacdc8", func := "inglenook/inglenooklaw.LandStands", spec := "landStands", unfollowed := true, recurses := true, apart := false }
def LandStandsSaid : Prop := landStandsRow.holds Try.pinned (OpenSpec.ofChange landStandsSpec)

/-- ITS FALSE NEIGHBOUR: 'it returns false'. Refute it at one input. -/
def landStandsWrong : ChangeSpec := { name := "landStands", fn := fun _ => fun
  | [d1, d2, d3, d4] => { results := [.lit (.bool false)], args := [d1, d2, d3, d4] }
  | _ => none }
def LandStandsWrongFalsely : Prop := landStandsRow.holds Try.pinned (OpenSpec.ofChange landStandsWrong)

/-- 'inglenookkeep.TelnetParts': WHATEVER THE INPUT: true; the input reads as it did. -/
def telnetPartsSpec : ChangeSpec := { name := "telnetParts", fn := fun _ => fun
  | [d1, d2, d3] => { results := [.lit (.bool true)], args := [d1, d2, d3] }
  | _ => none }
def telnetPartsRow : OpenClaim := { program := "ytnpbkbianmogoaa", sum := "5d7dbd4ecd6f3ff9414327e31dd0bf70fb62ad2ba50c47f7b7ed6ce35dbacdc8", func := "inglenook/inglenookkeep.TelnetParts", spec := "telnetParts", inPlace := ["internal/abi.NoEscape"], apart := false }
def TelnetPartsSaid : Prop := telnetPartsRow.holds Try.pinned (OpenSpec.ofChange telnetPartsSpec)

/-- ITS FALSE NEIGHBOUR: 'it returns false'. Refute it at one input. -/
def telnetPartsWrong : ChangeSpec := { name := "telnetParts", fn := fun _ => fun
  | [d1, d2, d3] => { results := [.lit (.bool false)], args := [d1, d2, d3] }
  | _ => none }
def TelnetPartsWrongFalsely : Prop := telnetPartsRow.holds Try.pinned (OpenSpec.ofChange telnetPartsWrong)

/-- 'inglenookkeep.TelnetEnds': WHATEVER THE INPUT: true; the input reads as it did. -/
def telnetEndsSpec : ChangeSpec := { name := "telnetEnds", fn := fun _ => fun
  | [d1, d2, d3, d4] => { results := [.lit (.bool true)], args := [d1, d2, d3, d4] }
  | _ => none }
def telnetEndsRow : OpenClaim := { program := "ytnpbkbianmogoaa", sum := "5d7dbd4ecd6f3ff9414327e31dd0bf70fb62ad2ba50c47f7b7ed6ce35dbacdc8", func := "inglenook/inglenookkeep.TelnetEnds", spec := "telnetEnds", inPlace := ["internal/abi.NoEscape"], apart := false }
def TelnetEndsSaid : Prop := telnetEndsRow.holds Try.pinned (OpenSpec.ofChange telnetEndsSpec)

/-- ITS FALSE NEIGHBOUR: 'it returns false'. Refute it at one input. -/
def telnetEndsWrong : ChangeSpec := { name := "telnetEnds", fn := fun _ => fun
  | [d1, d2, d3, d4] => { results := [.lit (.bool false)], args := [d1, d2, d3, d4] }
  | _ => none }
def TelnetEndsWrongFalsely : Prop := telnetEndsRow.holds Try.pinned (OpenSpec.ofChange telnetEndsWrong)

/-- 'inglenooklaw.TelnetOffers': WHATEVER THE INPUT: true; the input reads as it did. -/
def telnetOffersSpec : ChangeSpec := { name := "telnetOffers", fn := fun _ => fun
  | [d1, d2] => { results := [.lit (.bool true)], args := [d1, d2] }
  | _ => none }
def telnetOffersRow : OpenClaim := { program := "ytnpbkbianmogoaa", sum := "5d7dbd4ecd6f3ff9414327e31dd0bf70fb62ad2ba50c47f7b7ed6ce35dbacdc8", func := "inglenook/inglenooklaw.TelnetOffers", spec := "telnetOffers", inPlace := ["internal/abi.NoEscape"], apart := false }
def TelnetOffersSaid : Prop := telnetOffersRow.holds Try.pinned (OpenSpec.ofChange telnetOffersSpec)

/-- ITS FALSE NEIGHBOUR: 'it returns false'. Refute it at one input. -/
def telnetOffersWrong : ChangeSpec := { name := "telnetOffers", fn := fun _ => fun
  | [d1, d2] => { results := [.lit (.bool false)], args := [d1, d2] }
  | _ => none }
def TelnetOffersWrongFalsely : Prop := telnetOffersRow.holds Try.pinned (OpenSpec.ofChange telnetOffersWrong)

/- THE SECOND FORM. 'bulk': how many values and letters a reading holds, each counted each time it is reached (what is shared counts as often as it is met; a slice's spare places count too). A statement '..UptoSaid' is the law's where the arguments, and the package variables that the reading takes, are together of bulk at most 1048576: NARROWER than '..Said'. Prove '..Said' where nothing that the law and all that it calls make is longer than what came in: it says more and counts as full. Else prove '..UptoSaid'. A law counts once. -/
mutual
def uptoBulk {H : Type} : DataW H → Nat
  | .lit (.string bytes) => bytes.length + 1
  | .lit _ => 1
  | .nil => 1
  | .ptr d => uptoBulk d + 1
  | .slice elems spare => uptoBulkAll elems + uptoBulkAll spare + 1
  | .agg parts => uptoBulkAll parts + 1
  | .iface _ d => uptoBulk d + 1
  | .map entries => uptoBulkEntries entries + 1
  | .held _ => 1
def uptoBulkAll {H : Type} : List (DataW H) → Nat
  | [] => 0
  | d :: r => uptoBulk d + uptoBulkAll r
def uptoBulkEntries {H : Type} : List (Lit × DataW H) → Nat
  | [] => 0
  | x :: r => uptoBulkEntry x + uptoBulkEntries r
def uptoBulkEntry {H : Type} : Lit × DataW H → Nat
  | (.string bytes, d) => bytes.length + uptoBulk d + 1
  | (_, d) => uptoBulk d + 1
 end
def uptoSmall : (H : Type) → List (DataW H) → Bool := fun _ ds => decide (uptoBulkAll ds ≤ 1048576)
def OpenSpec.upto (s : _root_.Go.ChangeSpec) : _root_.Go.OpenSpec := { _root_.Go.OpenSpec.ofChange s with cond := some uptoSmall }

/-- 'inglenooklaw.Names', WHERE WHAT IT READS IS OF BULK AT MOST 1048576: true; the input reads as it did. -/
def namesUptoRow : OpenClaim := { program := "ytnpbkbianmogoaa", sum := "5d7dbd4ecd6f3ff9414327e31dd0bf70fb62ad2ba50c47f7b7ed6ce35dbacdc8", func := "inglenook/inglenooklaw.Names", spec := "names", apart := false, narrowed := true }
def NamesUptoSaid : Prop := namesUptoRow.holds Try.pinned (OpenSpec.upto namesSpec)

/-- 'inglenookkeep.LineParts', WHERE WHAT IT READS IS OF BULK AT MOST 1048576: true; the input reads as it did. -/
def linePartsUptoRow : OpenClaim := { program := "ytnpbkbianmogoaa", sum := "5d7dbd4ecd6f3ff9414327e31dd0bf70fb62ad2ba50c47f7b7ed6ce35dbacdc8", func := "inglenook/inglenookkeep.LineParts", spec := "lineParts", apart := false, narrowed := true }
def LinePartsUptoSaid : Prop := linePartsUptoRow.holds Try.pinned (OpenSpec.upto linePartsSpec)

/-- 'inglenookkeep.LineErases', WHERE WHAT IT READS IS OF BULK AT MOST 1048576: true; the input reads as it did. -/
def lineErasesUptoRow : OpenClaim := { program := "ytnpbkbianmogoaa", sum := "5d7dbd4ecd6f3ff9414327e31dd0bf70fb62ad2ba50c47f7b7ed6ce35dbacdc8", func := "inglenook/inglenookkeep.LineErases", spec := "lineErases", apart := false, narrowed := true }
def LineErasesUptoSaid : Prop := lineErasesUptoRow.holds Try.pinned (OpenSpec.upto lineErasesSpec)

/-- 'inglenooklaw.LineFeeds', WHERE WHAT IT READS IS OF BULK AT MOST 1048576: true; the input reads as it did. -/
def lineFeedsUptoRow : OpenClaim := { program := "ytnpbkbianmogoaa", sum := "5d7dbd4ecd6f3ff9414327e31dd0bf70fb62ad2ba50c47f7b7ed6ce35dbacdc8", func := "inglenook/inglenooklaw.LineFeeds", spec := "lineFeeds", unfollowed := true, recurses := true, apart := false, narrowed := true }
def LineFeedsUptoSaid : Prop := lineFeedsUptoRow.holds Try.pinned (OpenSpec.upto lineFeedsSpec)

/-- 'inglenookkeep.LineWhole', WHERE WHAT IT READS IS OF BULK AT MOST 1048576: true; the input reads as it did. -/
def lineWholeUptoRow : OpenClaim := { program := "ytnpbkbianmogoaa", sum := "5d7dbd4ecd6f3ff9414327e31dd0bf70fb62ad2ba50c47f7b7ed6ce35dbacdc8", func := "inglenook/inglenookkeep.LineWhole", spec := "lineWhole", apart := false, narrowed := true }
def LineWholeUptoSaid : Prop := lineWholeUptoRow.holds Try.pinned (OpenSpec.upto lineWholeSpec)

/-- 'inglenookkeep.LandNests', WHERE WHAT IT READS IS OF BULK AT MOST 1048576: true; the input reads as it did. -/
def landNestsUptoRow : OpenClaim := { program := "ytnpbkbianmogoaa", sum := "5d7dbd4ecd6f3ff9414327e31dd0bf70fb62ad2ba50c47f7b7ed6ce35dbacdc8", func := "inglenook/inglenookkeep.LandNests", spec := "landNests", apart := false, narrowed := true }
def LandNestsUptoSaid : Prop := landNestsUptoRow.holds Try.pinned (OpenSpec.upto landNestsSpec)

/-- 'inglenooklaw.LandStands', WHERE WHAT IT READS IS OF BULK AT MOST 1048576: true; the input reads as it did. -/
def landStandsUptoRow : OpenClaim := { program := "ytnpbkbianmogoaa", sum := "5d7dbd4ecd6f3ff9414327e31dd0bf70fb62ad2ba50c47f7b7ed6ce35dbacdc8", func := "inglenook/inglenooklaw.LandStands", spec := "landStands", unfollowed := true, recurses := true, apart := false, narrowed := true }
def LandStandsUptoSaid : Prop := landStandsUptoRow.holds Try.pinned (OpenSpec.upto landStandsSpec)

/-- 'inglenookkeep.TelnetParts', WHERE WHAT IT READS IS OF BULK AT MOST 1048576: true; the input reads as it did. -/
def telnetPartsUptoRow : OpenClaim := { program := "ytnpbkbianmogoaa", sum := "5d7dbd4ecd6f3ff9414327e31dd0bf70fb62ad2ba50c47f7b7ed6ce35dbacdc8", func := "inglenook/inglenookkeep.TelnetParts", spec := "telnetParts", inPlace := ["internal/abi.NoEscape"], apart := false, narrowed := true }
def TelnetPartsUptoSaid : Prop := telnetPartsUptoRow.holds Try.pinned (OpenSpec.upto telnetPartsSpec)

/-- 'inglenookkeep.TelnetEnds', WHERE WHAT IT READS IS OF BULK AT MOST 1048576: true; the input reads as it did. -/
def telnetEndsUptoRow : OpenClaim := { program := "ytnpbkbianmogoaa", sum := "5d7dbd4ecd6f3ff9414327e31dd0bf70fb62ad2ba50c47f7b7ed6ce35dbacdc8", func := "inglenook/inglenookkeep.TelnetEnds", spec := "telnetEnds", inPlace := ["internal/abi.NoEscape"], apart := false, narrowed := true }
def TelnetEndsUptoSaid : Prop := telnetEndsUptoRow.holds Try.pinned (OpenSpec.upto telnetEndsSpec)

/-- 'inglenooklaw.TelnetOffers', WHERE WHAT IT READS IS OF BULK AT MOST 1048576: true; the input reads as it did. -/
def telnetOffersUptoRow : OpenClaim := { program := "ytnpbkbianmogoaa", sum := "5d7dbd4ecd6f3ff9414327e31dd0bf70fb62ad2ba50c47f7b7ed6ce35dbacdc8", func := "inglenook/inglenooklaw.TelnetOffers", spec := "telnetOffers", inPlace := ["internal/abi.NoEscape"], apart := false, narrowed := true }
def TelnetOffersUptoSaid : Prop := telnetOffersUptoRow.holds Try.pinned (OpenSpec.upto telnetOffersSpec)

end Rows
end Go.Proofs.Ytnpbkbianmogoaa
