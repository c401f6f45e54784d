/-
  NARROWER THAN 'FOR EVERY INPUT', by the rows' own cells (each row's printed sentence says how): SensePerceives: laid · SenseTells: laid · SenseNames: laid · SenseRooms: laid · SenseSees: laid.
  DERIVED. THE GIVEN ROWS OF THIS SEAT. 5 by the template 'for every input the law returns true; each argument reads behind the call as it read before'; 0 by the template 'total and deterministic' (their statements: YtclcdddimmelaaaDoorTotals.lean).
  GIVEN WITH THE SEED: the statements are not yours to turn. If you find one false, say at which input.
  Laid BY PROGRAM, IN A SANDBOX (cutbox-rows.mjs): the forced cells as the released guide's own fill.sh prints them over the translation 16b6b3950ad39b69… (all of the seat's roots in one cut). By AI agents, Wed Nov 11 2026. No macro, syntax, notation, axiom, sorry.
-/
import Derived.Test.YtclcdddimmelaaaDoorChecked
import GoSem.Claim
import GoSem.ClaimJoined
import GoSem.ClaimMapViews
import Derived.JoinedTies
import Derived.KernelRfl
namespace Go.Proofs.YtclcdddimmelaaaDoor
/- THE CELL 'sum', in the pinned program and in every row, IS THE sha256 OF THE DUMP (.gsa) THAT YtclcdddimmelaaaDoorProg.lean LOADS. Nothing in Lean hashes anything: it is a label: what it is worth is what the hold of that sum in a sandbox is worth. -/
noncomputable def Tryd.pinned : Pinned := { name := "ytclcdddimmelaaadoor", sum := "16b6b3950ad39b69f4aab5ecbbc4b55e3149f7556d3e4d0069c3d0a792bc092f", checked := Tryd.checked }
namespace Rows
def none {H : Type} : Left H := { results := [], args := [] }

/- WHAT THE LISTED PACKAGE-LEVEL VARIABLES READ AS WHEN THE CALL BEGINS. Each datum BY PROGRAM (the guide's laid-datum.mjs) off the statement by which the dump's own 'gosem.cut.vars' lays the variable. In a bare row this is a premise. The card (YtclcdddimmelaaaDoorCards.lean) ties it to the program's text. -/
def laid_math_bits_deBruijn32tab {H : Type} : DataW H := .agg [.lit (.int .u8 0), .lit (.int .u8 1), .lit (.int .u8 28), .lit (.int .u8 2), .lit (.int .u8 29), .lit (.int .u8 14), .lit (.int .u8 24), .lit (.int .u8 3), .lit (.int .u8 30), .lit (.int .u8 22), .lit (.int .u8 20), .lit (.int .u8 15), .lit (.int .u8 25), .lit (.int .u8 17), .lit (.int .u8 4), .lit (.int .u8 8), .lit (.int .u8 31), .lit (.int .u8 27), .lit (.int .u8 13), .lit (.int .u8 23), .lit (.int .u8 21), .lit (.int .u8 19), .lit (.int .u8 16), .lit (.int .u8 7), .lit (.int .u8 26), .lit (.int .u8 12), .lit (.int .u8 18), .lit (.int .u8 6), .lit (.int .u8 11), .lit (.int .u8 5), .lit (.int .u8 10), .lit (.int .u8 9)]
def laid_math_bits_deBruijn64tab {H : Type} : DataW H := .agg [.lit (.int .u8 0), .lit (.int .u8 1), .lit (.int .u8 56), .lit (.int .u8 2), .lit (.int .u8 57), .lit (.int .u8 49), .lit (.int .u8 28), .lit (.int .u8 3), .lit (.int .u8 61), .lit (.int .u8 58), .lit (.int .u8 42), .lit (.int .u8 50), .lit (.int .u8 38), .lit (.int .u8 29), .lit (.int .u8 17), .lit (.int .u8 4), .lit (.int .u8 62), .lit (.int .u8 47), .lit (.int .u8 59), .lit (.int .u8 36), .lit (.int .u8 45), .lit (.int .u8 43), .lit (.int .u8 51), .lit (.int .u8 22), .lit (.int .u8 53), .lit (.int .u8 39), .lit (.int .u8 33), .lit (.int .u8 30), .lit (.int .u8 24), .lit (.int .u8 18), .lit (.int .u8 12), .lit (.int .u8 5), .lit (.int .u8 63), .lit (.int .u8 55), .lit (.int .u8 48), .lit (.int .u8 27), .lit (.int .u8 60), .lit (.int .u8 41), .lit (.int .u8 37), .lit (.int .u8 16), .lit (.int .u8 46), .lit (.int .u8 35), .lit (.int .u8 44), .lit (.int .u8 21), .lit (.int .u8 52), .lit (.int .u8 32), .lit (.int .u8 23), .lit (.int .u8 11), .lit (.int .u8 54), .lit (.int .u8 26), .lit (.int .u8 40), .lit (.int .u8 15), .lit (.int .u8 34), .lit (.int .u8 20), .lit (.int .u8 31), .lit (.int .u8 10), .lit (.int .u8 25), .lit (.int .u8 14), .lit (.int .u8 19), .lit (.int .u8 9), .lit (.int .u8 13), .lit (.int .u8 8), .lit (.int .u8 7), .lit (.int .u8 6)]
def laid_internal_strconv_uint64pow10 {H : Type} : DataW H := .agg [.lit (.int .u64 1), .lit (.int .u64 10), .lit (.int .u64 100), .lit (.int .u64 1000), .lit (.int .u64 10000), .lit (.int .u64 100000), .lit (.int .u64 1000000), .lit (.int .u64 10000000), .lit (.int .u64 100000000), .lit (.int .u64 1000000000), .lit (.int .u64 10000000000), .lit (.int .u64 100000000000), .lit (.int .u64 1000000000000), .lit (.int .u64 10000000000000), .lit (.int .u64 100000000000000), .lit (.int .u64 1000000000000000), .lit (.int .u64 10000000000000000), .lit (.int .u64 100000000000000000), .lit (.int .u64 1000000000000000000), .lit (.int .u64 10000000000000000000)]
def laid_inglenook_words_verbs {H : Type} : DataW H := .agg [.lit (.string [110, 111, 114, 116, 104]), .lit (.string [101, 97, 115, 116]), .lit (.string [117, 112]), .lit (.string [115, 111, 117, 116, 104]), .lit (.string [119, 101, 115, 116]), .lit (.string [100, 111, 119, 110]), .lit (.string [108, 111, 111, 107]), .lit (.string [103, 101, 116]), .lit (.string [100, 114, 111, 112]), .lit (.string [112, 117, 116]), .lit (.string [103, 105, 118, 101]), .lit (.string [115, 97, 121]), .lit (.string [111, 112, 101, 110]), .lit (.string [99, 108, 111, 115, 101]), .lit (.string [108, 105, 103, 104, 116]), .lit (.string [100, 111, 117, 115, 101]), .lit (.string [119, 101, 97, 114]), .lit (.string [100, 111, 102, 102]), .lit (.string [104, 105, 116]), .lit (.string [105, 110, 118, 101, 110, 116, 111, 114, 121]), .lit (.string [113, 117, 105, 116])]
def laid_inglenook_inglenookref_verbs {H : Type} : DataW H := .agg [.lit (.string [110, 111, 114, 116, 104]), .lit (.string [101, 97, 115, 116]), .lit (.string [117, 112]), .lit (.string [115, 111, 117, 116, 104]), .lit (.string [119, 101, 115, 116]), .lit (.string [100, 111, 119, 110]), .lit (.string [108, 111, 111, 107]), .lit (.string [103, 101, 116]), .lit (.string [100, 114, 111, 112]), .lit (.string [112, 117, 116]), .lit (.string [103, 105, 118, 101]), .lit (.string [115, 97, 121]), .lit (.string [111, 112, 101, 110]), .lit (.string [99, 108, 111, 115, 101]), .lit (.string [108, 105, 103, 104, 116]), .lit (.string [100, 111, 117, 115, 101]), .lit (.string [119, 101, 97, 114]), .lit (.string [100, 111, 102, 102]), .lit (.string [104, 105, 116]), .lit (.string [105, 110, 118, 101, 110, 116, 111, 114, 121]), .lit (.string [113, 117, 105, 116])]

/-- 'inglenooklaw.SensePerceives': WHATEVER THE INPUT: true; the input reads as it did. -/
def sensePerceivesSpec : ChangeSpec := { name := "sensePerceives", fn := fun _ => fun
  | [d1, d2, d3, d4] => { results := [.lit (.bool true)], args := [d1, d2, d3, d4] }
  | _ => none }
def sensePerceivesRow : OpenClaim := { program := "ytclcdddimmelaaadoor", sum := "16b6b3950ad39b69f4aab5ecbbc4b55e3149f7556d3e4d0069c3d0a792bc092f", func := "inglenook/inglenooklaw.SensePerceives", spec := "sensePerceives", inPlace := ["internal/abi.NoEscape"], named := ["inglenook/words.verbs", "internal/strconv.uint64pow10", "math/bits.deBruijn32tab", "math/bits.deBruijn64tab"], apart := false, laid := [("math/bits.deBruijn32tab", laid_math_bits_deBruijn32tab), ("math/bits.deBruijn64tab", laid_math_bits_deBruijn64tab), ("internal/strconv.uint64pow10", laid_internal_strconv_uint64pow10), ("inglenook/words.verbs", laid_inglenook_words_verbs)] }
def SensePerceivesSaid : Prop := sensePerceivesRow.holds Tryd.pinned (OpenSpec.ofChange sensePerceivesSpec)

/-- ITS FALSE NEIGHBOUR: 'it returns false'. Refute it at one input. -/
def sensePerceivesWrong : ChangeSpec := { name := "sensePerceives", fn := fun _ => fun
  | [d1, d2, d3, d4] => { results := [.lit (.bool false)], args := [d1, d2, d3, d4] }
  | _ => none }
def SensePerceivesWrongFalsely : Prop := sensePerceivesRow.holds Tryd.pinned (OpenSpec.ofChange sensePerceivesWrong)

/-- 'inglenooklaw.SenseTells': WHATEVER THE INPUT: true; the input reads as it did. -/
def senseTellsSpec : ChangeSpec := { name := "senseTells", fn := fun _ => fun
  | [d1, d2] => { results := [.lit (.bool true)], args := [d1, d2] }
  | _ => none }
def senseTellsRow : OpenClaim := { program := "ytclcdddimmelaaadoor", sum := "16b6b3950ad39b69f4aab5ecbbc4b55e3149f7556d3e4d0069c3d0a792bc092f", func := "inglenook/inglenooklaw.SenseTells", spec := "senseTells", inPlace := ["internal/abi.NoEscape"], unfollowed := true, recurses := true, named := ["inglenook/words.verbs", "internal/strconv.uint64pow10", "math/bits.deBruijn32tab", "math/bits.deBruijn64tab", "inglenook/inglenookref.verbs"], apart := false, laid := [("math/bits.deBruijn32tab", laid_math_bits_deBruijn32tab), ("math/bits.deBruijn64tab", laid_math_bits_deBruijn64tab), ("internal/strconv.uint64pow10", laid_internal_strconv_uint64pow10), ("inglenook/inglenookref.verbs", laid_inglenook_inglenookref_verbs), ("inglenook/words.verbs", laid_inglenook_words_verbs)] }
def SenseTellsSaid : Prop := senseTellsRow.holds Tryd.pinned (OpenSpec.ofChange senseTellsSpec)

/-- ITS FALSE NEIGHBOUR: 'it returns false'. Refute it at one input. -/
def senseTellsWrong : ChangeSpec := { name := "senseTells", fn := fun _ => fun
  | [d1, d2] => { results := [.lit (.bool false)], args := [d1, d2] }
  | _ => none }
def SenseTellsWrongFalsely : Prop := senseTellsRow.holds Tryd.pinned (OpenSpec.ofChange senseTellsWrong)

/-- 'inglenookkeep.SenseNames': WHATEVER THE INPUT: true; the input reads as it did. -/
def senseNamesSpec : ChangeSpec := { name := "senseNames", fn := fun _ => fun
  | [d1, d2, d3] => { results := [.lit (.bool true)], args := [d1, d2, d3] }
  | _ => none }
def senseNamesRow : OpenClaim := { program := "ytclcdddimmelaaadoor", sum := "16b6b3950ad39b69f4aab5ecbbc4b55e3149f7556d3e4d0069c3d0a792bc092f", func := "inglenook/inglenookkeep.SenseNames", spec := "senseNames", inPlace := ["internal/abi.NoEscape"], named := ["inglenook/words.verbs", "internal/strconv.uint64pow10", "math/bits.deBruijn32tab", "math/bits.deBruijn64tab"], apart := false, laid := [("math/bits.deBruijn32tab", laid_math_bits_deBruijn32tab), ("math/bits.deBruijn64tab", laid_math_bits_deBruijn64tab), ("internal/strconv.uint64pow10", laid_internal_strconv_uint64pow10), ("inglenook/words.verbs", laid_inglenook_words_verbs)] }
def SenseNamesSaid : Prop := senseNamesRow.holds Tryd.pinned (OpenSpec.ofChange senseNamesSpec)

/-- ITS FALSE NEIGHBOUR: 'it returns false'. Refute it at one input. -/
def senseNamesWrong : ChangeSpec := { name := "senseNames", fn := fun _ => fun
  | [d1, d2, d3] => { results := [.lit (.bool false)], args := [d1, d2, d3] }
  | _ => none }
def SenseNamesWrongFalsely : Prop := senseNamesRow.holds Tryd.pinned (OpenSpec.ofChange senseNamesWrong)

/-- 'inglenookkeep.SenseRooms': WHATEVER THE INPUT: true; the input reads as it did. -/
def senseRoomsSpec : ChangeSpec := { name := "senseRooms", fn := fun _ => fun
  | [d1, d2, d3] => { results := [.lit (.bool true)], args := [d1, d2, d3] }
  | _ => none }
def senseRoomsRow : OpenClaim := { program := "ytclcdddimmelaaadoor", sum := "16b6b3950ad39b69f4aab5ecbbc4b55e3149f7556d3e4d0069c3d0a792bc092f", func := "inglenook/inglenookkeep.SenseRooms", spec := "senseRooms", inPlace := ["internal/abi.NoEscape"], named := ["inglenook/words.verbs", "internal/strconv.uint64pow10", "math/bits.deBruijn32tab", "math/bits.deBruijn64tab"], apart := false, laid := [("math/bits.deBruijn32tab", laid_math_bits_deBruijn32tab), ("math/bits.deBruijn64tab", laid_math_bits_deBruijn64tab), ("internal/strconv.uint64pow10", laid_internal_strconv_uint64pow10), ("inglenook/words.verbs", laid_inglenook_words_verbs)] }
def SenseRoomsSaid : Prop := senseRoomsRow.holds Tryd.pinned (OpenSpec.ofChange senseRoomsSpec)

/-- ITS FALSE NEIGHBOUR: 'it returns false'. Refute it at one input. -/
def senseRoomsWrong : ChangeSpec := { name := "senseRooms", fn := fun _ => fun
  | [d1, d2, d3] => { results := [.lit (.bool false)], args := [d1, d2, d3] }
  | _ => none }
def SenseRoomsWrongFalsely : Prop := senseRoomsRow.holds Tryd.pinned (OpenSpec.ofChange senseRoomsWrong)

/-- 'inglenookkeep.SenseSees': WHATEVER THE INPUT: true; the input reads as it did. -/
def senseSeesSpec : ChangeSpec := { name := "senseSees", fn := fun _ => fun
  | [d1, d2, d3] => { results := [.lit (.bool true)], args := [d1, d2, d3] }
  | _ => none }
def senseSeesRow : OpenClaim := { program := "ytclcdddimmelaaadoor", sum := "16b6b3950ad39b69f4aab5ecbbc4b55e3149f7556d3e4d0069c3d0a792bc092f", func := "inglenook/inglenookkeep.SenseSees", spec := "senseSees", inPlace := ["internal/abi.NoEscape"], named := ["inglenook/words.verbs", "internal/strconv.uint64pow10", "math/bits.deBruijn32tab", "math/bits.deBruijn64tab"], apart := false, laid := [("math/bits.deBruijn32tab", laid_math_bits_deBruijn32tab), ("math/bits.deBruijn64tab", laid_math_bits_deBruijn64tab), ("internal/strconv.uint64pow10", laid_internal_strconv_uint64pow10), ("inglenook/words.verbs", laid_inglenook_words_verbs)] }
def SenseSeesSaid : Prop := senseSeesRow.holds Tryd.pinned (OpenSpec.ofChange senseSeesSpec)

/-- ITS FALSE NEIGHBOUR: 'it returns false'. Refute it at one input. -/
def senseSeesWrong : ChangeSpec := { name := "senseSees", fn := fun _ => fun
  | [d1, d2, d3] => { results := [.lit (.bool false)], args := [d1, d2, d3] }
  | _ => none }
def SenseSeesWrongFalsely : Prop := senseSeesRow.holds Tryd.pinned (OpenSpec.ofChange senseSeesWrong)

/- THE SECOND FORM. 'bulk': how many values and letters a reading holds, each counted each time it is reached (what is shared counts as often as it is met; a slice's spare places count too). A statement '..UptoSaid' is the law's where the arguments, and the package variables that the reading takes, are together of bulk at most 1048576: NARROWER than '..Said'. Prove '..Said' where nothing that the law and all that it calls make is longer than what came in: it says more and counts as full. Else prove '..UptoSaid'. A law counts once. -/
mutual
def uptoBulk {H : Type} : DataW H → Nat
  | .lit (.string bytes) => bytes.length + 1
  | .lit _ => 1
  | .nil => 1
  | .ptr d => uptoBulk d + 1
  | .slice elems spare => uptoBulkAll elems + uptoBulkAll spare + 1
  | .agg parts => uptoBulkAll parts + 1
  | .iface _ d => uptoBulk d + 1
  | .map entries => uptoBulkEntries entries + 1
  | .held _ => 1
def uptoBulkAll {H : Type} : List (DataW H) → Nat
  | [] => 0
  | d :: r => uptoBulk d + uptoBulkAll r
def uptoBulkEntries {H : Type} : List (Lit × DataW H) → Nat
  | [] => 0
  | x :: r => uptoBulkEntry x + uptoBulkEntries r
def uptoBulkEntry {H : Type} : Lit × DataW H → Nat
  | (.string bytes, d) => bytes.length + uptoBulk d + 1
  | (_, d) => uptoBulk d + 1
 end
def uptoSmall : (H : Type) → List (DataW H) → Bool := fun _ ds => decide (uptoBulkAll ds ≤ 1048576)
def OpenSpec.upto (s : _root_.Go.ChangeSpec) : _root_.Go.OpenSpec := { _root_.Go.OpenSpec.ofChange s with cond := some uptoSmall }

/-- 'inglenooklaw.SensePerceives', WHERE WHAT IT READS IS OF BULK AT MOST 1048576: true; the input reads as it did. -/
def sensePerceivesUptoRow : OpenClaim := { program := "ytclcdddimmelaaadoor", sum := "16b6b3950ad39b69f4aab5ecbbc4b55e3149f7556d3e4d0069c3d0a792bc092f", func := "inglenook/inglenooklaw.SensePerceives", spec := "sensePerceives", inPlace := ["internal/abi.NoEscape"], named := ["inglenook/words.verbs", "internal/strconv.uint64pow10", "math/bits.deBruijn32tab", "math/bits.deBruijn64tab"], apart := false, laid := [("math/bits.deBruijn32tab", laid_math_bits_deBruijn32tab), ("math/bits.deBruijn64tab", laid_math_bits_deBruijn64tab), ("internal/strconv.uint64pow10", laid_internal_strconv_uint64pow10), ("inglenook/words.verbs", laid_inglenook_words_verbs)], narrowed := true }
def SensePerceivesUptoSaid : Prop := sensePerceivesUptoRow.holds Tryd.pinned (OpenSpec.upto sensePerceivesSpec)

/-- 'inglenooklaw.SenseTells', WHERE WHAT IT READS IS OF BULK AT MOST 1048576: true; the input reads as it did. -/
def senseTellsUptoRow : OpenClaim := { program := "ytclcdddimmelaaadoor", sum := "16b6b3950ad39b69f4aab5ecbbc4b55e3149f7556d3e4d0069c3d0a792bc092f", func := "inglenook/inglenooklaw.SenseTells", spec := "senseTells", inPlace := ["internal/abi.NoEscape"], unfollowed := true, recurses := true, named := ["inglenook/words.verbs", "internal/strconv.uint64pow10", "math/bits.deBruijn32tab", "math/bits.deBruijn64tab", "inglenook/inglenookref.verbs"], apart := false, laid := [("math/bits.deBruijn32tab", laid_math_bits_deBruijn32tab), ("math/bits.deBruijn64tab", laid_math_bits_deBruijn64tab), ("internal/strconv.uint64pow10", laid_internal_strconv_uint64pow10), ("inglenook/inglenookref.verbs", laid_inglenook_inglenookref_verbs), ("inglenook/words.verbs", laid_inglenook_words_verbs)], narrowed := true }
def SenseTellsUptoSaid : Prop := senseTellsUptoRow.holds Tryd.pinned (OpenSpec.upto senseTellsSpec)

/-- 'inglenookkeep.SenseNames', WHERE WHAT IT READS IS OF BULK AT MOST 1048576: true; the input reads as it did. -/
def senseNamesUptoRow : OpenClaim := { program := "ytclcdddimmelaaadoor", sum := "16b6b3950ad39b69f4aab5ecbbc4b55e3149f7556d3e4d0069c3d0a792bc092f", func := "inglenook/inglenookkeep.SenseNames", spec := "senseNames", inPlace := ["internal/abi.NoEscape"], named := ["inglenook/words.verbs", "internal/strconv.uint64pow10", "math/bits.deBruijn32tab", "math/bits.deBruijn64tab"], apart := false, laid := [("math/bits.deBruijn32tab", laid_math_bits_deBruijn32tab), ("math/bits.deBruijn64tab", laid_math_bits_deBruijn64tab), ("internal/strconv.uint64pow10", laid_internal_strconv_uint64pow10), ("inglenook/words.verbs", laid_inglenook_words_verbs)], narrowed := true }
def SenseNamesUptoSaid : Prop := senseNamesUptoRow.holds Tryd.pinned (OpenSpec.upto senseNamesSpec)

/-- 'inglenookkeep.SenseRooms', WHERE WHAT IT READS IS OF BULK AT MOST 1048576: true; the input reads as it did. -/
def senseRoomsUptoRow : OpenClaim := { program := "ytclcdddimmelaaadoor", sum := "16b6b3950ad39b69f4aab5ecbbc4b55e3149f7556d3e4d0069c3d0a792bc092f", func := "inglenook/inglenookkeep.SenseRooms", spec := "senseRooms", inPlace := ["internal/abi.NoEscape"], named := ["inglenook/words.verbs", "internal/strconv.uint64pow10", "math/bits.deBruijn32tab", "math/bits.deBruijn64tab"], apart := false, laid := [("math/bits.deBruijn32tab", laid_math_bits_deBruijn32tab), ("math/bits.deBruijn64tab", laid_math_bits_deBruijn64tab), ("internal/strconv.uint64pow10", laid_internal_strconv_uint64pow10), ("inglenook/words.verbs", laid_inglenook_words_verbs)], narrowed := true }
def SenseRoomsUptoSaid : Prop := senseRoomsUptoRow.holds Tryd.pinned (OpenSpec.upto senseRoomsSpec)

/-- 'inglenookkeep.SenseSees', WHERE WHAT IT READS IS OF BULK AT MOST 1048576: true; the input reads as it did. -/
def senseSeesUptoRow : OpenClaim := { program := "ytclcdddimmelaaadoor", sum := "16b6b3950ad39b69f4aab5ecbbc4b55e3149f7556d3e4d0069c3d0a792bc092f", func := "inglenook/inglenookkeep.SenseSees", spec := "senseSees", inPlace := ["internal/abi.NoEscape"], named := ["inglenook/words.verbs", "internal/strconv.uint64pow10", "math/bits.deBruijn32tab", "math/bits.deBruijn64tab"], apart := false, laid := [("math/bits.deBruijn32tab", laid_math_bits_deBruijn32tab), ("math/bits.deBruijn64tab", laid_math_bits_deBruijn64tab), ("internal/strconv.uint64pow10", laid_internal_strconv_uint64pow10), ("inglenook/words.verbs", laid_inglenook_words_verbs)], narrowed := true }
def SenseSeesUptoSaid : Prop := senseSeesUptoRow.holds Tryd.pinned (OpenSpec.upto senseSeesSpec)

end Rows
end Go.Proofs.YtclcdddimmelaaaDoor
