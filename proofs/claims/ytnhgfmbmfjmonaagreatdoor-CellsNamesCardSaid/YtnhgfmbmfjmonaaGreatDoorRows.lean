/-
  NARROWER THAN 'FOR EVERY INPUT', by the rows' own cells (each row's printed sentence says how): CellsPlays: laid · CellsDraws: laid · CellsStrict: laid · CellsReckons: laid · CellsDrawn: laid · CellsDoes: laid · CellsOrder: laid · CellsStreams: laid · CellsChecks: laid · CellsBelow: laid · CellsLess: laid · CellsMore: laid · CellsBuilds: laid · CellsBuilt: laid · CellsNames: laid.
  DERIVED. THE GIVEN ROWS OF THIS SEAT. 15 by the template 'for every input the law returns true; each argument reads behind the call as it read before'; 0 by the template 'total and deterministic' (their statements: YtnhgfmbmfjmonaaGreatDoorTotals.lean).
  GIVEN WITH THE SEED: the statements are not yours to turn. If you find one false, say at which input.
  Laid BY PROGRAM, IN A SANDBOX (cutbox-rows.mjs): the forced cells as the released guide's own fill.sh prints them over the translation e2405be6a2a7bd0d… (all of the seat's roots in one cut). By AI agents, Wed Nov 11 2026. No macro, syntax, notation, axiom, sorry.
-/
import Derived.Test.YtnhgfmbmfjmonaaGreatDoorChecked
import GoSem.Claim
import GoSem.ClaimJoined
import GoSem.ClaimMapViews
import Derived.JoinedTies
import Derived.KernelRfl
namespace Go.Proofs.YtnhgfmbmfjmonaaGreatDoor
/- THE CELL 'sum', in the pinned program and in every row, IS THE sha256 OF THE DUMP (.gsa) THAT YtnhgfmbmfjmonaaGreatDoorProg.lean LOADS. Nothing in Lean hashes anything: it is a label: what it is worth is what the hold of that sum in a sandbox is worth. -/
noncomputable def Tryz.pinned : Pinned := { name := "ytnhgfmbmfjmonaagreatdoor", sum := "e2405be6a2a7bd0dcb5154743e1c31c20829407daf5fd10a26f5773e7bd1c958", checked := Tryz.checked }
namespace Rows
def none {H : Type} : Left H := { results := [], args := [] }

/- WHAT THE LISTED PACKAGE-LEVEL VARIABLES READ AS WHEN THE CALL BEGINS. Each datum BY PROGRAM (the guide's laid-datum.mjs) off the statement by which the dump's own 'gosem.cut.vars' lays the variable. In a bare row this is a premise. The card (YtnhgfmbmfjmonaaGreatDoorCards.lean) ties it to the program's text. -/
def laid_math_bits_deBruijn32tab {H : Type} : DataW H := .agg [.lit (.int .u8 0), .lit (.int .u8 1), .lit (.int .u8 28), .lit (.int .u8 2), .lit (.int .u8 29), .lit (.int .u8 14), .lit (.int .u8 24), .lit (.int .u8 3), .lit (.int .u8 30), .lit (.int .u8 22), .lit (.int .u8 20), .lit (.int .u8 15), .lit (.int .u8 25), .lit (.int .u8 17), .lit (.int .u8 4), .lit (.int .u8 8), .lit (.int .u8 31), .lit (.int .u8 27), .lit (.int .u8 13), .lit (.int .u8 23), .lit (.int .u8 21), .lit (.int .u8 19), .lit (.int .u8 16), .lit (.int .u8 7), .lit (.int .u8 26), .lit (.int .u8 12), .lit (.int .u8 18), .lit (.int .u8 6), .lit (.int .u8 11), .lit (.int .u8 5), .lit (.int .u8 10), .lit (.int .u8 9)]
def laid_math_bits_deBruijn64tab {H : Type} : DataW H := .agg [.lit (.int .u8 0), .lit (.int .u8 1), .lit (.int .u8 56), .lit (.int .u8 2), .lit (.int .u8 57), .lit (.int .u8 49), .lit (.int .u8 28), .lit (.int .u8 3), .lit (.int .u8 61), .lit (.int .u8 58), .lit (.int .u8 42), .lit (.int .u8 50), .lit (.int .u8 38), .lit (.int .u8 29), .lit (.int .u8 17), .lit (.int .u8 4), .lit (.int .u8 62), .lit (.int .u8 47), .lit (.int .u8 59), .lit (.int .u8 36), .lit (.int .u8 45), .lit (.int .u8 43), .lit (.int .u8 51), .lit (.int .u8 22), .lit (.int .u8 53), .lit (.int .u8 39), .lit (.int .u8 33), .lit (.int .u8 30), .lit (.int .u8 24), .lit (.int .u8 18), .lit (.int .u8 12), .lit (.int .u8 5), .lit (.int .u8 63), .lit (.int .u8 55), .lit (.int .u8 48), .lit (.int .u8 27), .lit (.int .u8 60), .lit (.int .u8 41), .lit (.int .u8 37), .lit (.int .u8 16), .lit (.int .u8 46), .lit (.int .u8 35), .lit (.int .u8 44), .lit (.int .u8 21), .lit (.int .u8 52), .lit (.int .u8 32), .lit (.int .u8 23), .lit (.int .u8 11), .lit (.int .u8 54), .lit (.int .u8 26), .lit (.int .u8 40), .lit (.int .u8 15), .lit (.int .u8 34), .lit (.int .u8 20), .lit (.int .u8 31), .lit (.int .u8 10), .lit (.int .u8 25), .lit (.int .u8 14), .lit (.int .u8 19), .lit (.int .u8 9), .lit (.int .u8 13), .lit (.int .u8 8), .lit (.int .u8 7), .lit (.int .u8 6)]
def laid_internal_strconv_uint64pow10 {H : Type} : DataW H := .agg [.lit (.int .u64 1), .lit (.int .u64 10), .lit (.int .u64 100), .lit (.int .u64 1000), .lit (.int .u64 10000), .lit (.int .u64 100000), .lit (.int .u64 1000000), .lit (.int .u64 10000000), .lit (.int .u64 100000000), .lit (.int .u64 1000000000), .lit (.int .u64 10000000000), .lit (.int .u64 100000000000), .lit (.int .u64 1000000000000), .lit (.int .u64 10000000000000), .lit (.int .u64 100000000000000), .lit (.int .u64 1000000000000000), .lit (.int .u64 10000000000000000), .lit (.int .u64 100000000000000000), .lit (.int .u64 1000000000000000000), .lit (.int .u64 10000000000000000000)]

/-- 'floodgatelaw06.CellsPlays': WHATEVER THE INPUT: true; the input reads as it did. -/
def cellsPlaysSpec : ChangeSpec := { name := "cellsPlays", fn := fun _ => fun
  | [d1, d2] => { results := [.lit (.bool true)], args := [d1, d2] }
  | _ => none }
def cellsPlaysRow : OpenClaim := { program := "ytnhgfmbmfjmonaagreatdoor", sum := "e2405be6a2a7bd0dcb5154743e1c31c20829407daf5fd10a26f5773e7bd1c958", func := "floodgate/floodgatelaw06.CellsPlays", spec := "cellsPlays", inPlace := ["internal/abi.NoEscape"], unfollowed := true, recurses := true, named := ["internal/strconv.uint64pow10", "math/bits.deBruijn32tab", "math/bits.deBruijn64tab"], apart := false, laid := [("math/bits.deBruijn32tab", laid_math_bits_deBruijn32tab), ("math/bits.deBruijn64tab", laid_math_bits_deBruijn64tab), ("internal/strconv.uint64pow10", laid_internal_strconv_uint64pow10)] }
def CellsPlaysSaid : Prop := cellsPlaysRow.holds Tryz.pinned (OpenSpec.ofChange cellsPlaysSpec)

/-- ITS FALSE NEIGHBOUR: 'it returns false'. Refute it at one input. -/
def cellsPlaysWrong : ChangeSpec := { name := "cellsPlays", fn := fun _ => fun
  | [d1, d2] => { results := [.lit (.bool false)], args := [d1, d2] }
  | _ => none }
def CellsPlaysWrongFalsely : Prop := cellsPlaysRow.holds Tryz.pinned (OpenSpec.ofChange cellsPlaysWrong)

/-- 'floodgatelaw06.CellsDraws': WHATEVER THE INPUT: true; the input reads as it did. -/
def cellsDrawsSpec : ChangeSpec := { name := "cellsDraws", fn := fun _ => fun
  | [d1, d2, d3] => { results := [.lit (.bool true)], args := [d1, d2, d3] }
  | _ => none }
def cellsDrawsRow : OpenClaim := { program := "ytnhgfmbmfjmonaagreatdoor", sum := "e2405be6a2a7bd0dcb5154743e1c31c20829407daf5fd10a26f5773e7bd1c958", func := "floodgate/floodgatelaw06.CellsDraws", spec := "cellsDraws", inPlace := ["internal/abi.NoEscape"], unfollowed := true, recurses := true, named := ["internal/strconv.uint64pow10", "math/bits.deBruijn32tab", "math/bits.deBruijn64tab"], apart := false, laid := [("math/bits.deBruijn32tab", laid_math_bits_deBruijn32tab), ("math/bits.deBruijn64tab", laid_math_bits_deBruijn64tab), ("internal/strconv.uint64pow10", laid_internal_strconv_uint64pow10)] }
def CellsDrawsSaid : Prop := cellsDrawsRow.holds Tryz.pinned (OpenSpec.ofChange cellsDrawsSpec)

/-- ITS FALSE NEIGHBOUR: 'it returns false'. Refute it at one input. -/
def cellsDrawsWrong : ChangeSpec := { name := "cellsDraws", fn := fun _ => fun
  | [d1, d2, d3] => { results := [.lit (.bool false)], args := [d1, d2, d3] }
  | _ => none }
def CellsDrawsWrongFalsely : Prop := cellsDrawsRow.holds Tryz.pinned (OpenSpec.ofChange cellsDrawsWrong)

/-- 'floodgatelaw06.CellsStrict': WHATEVER THE INPUT: true; the input reads as it did. -/
def cellsStrictSpec : ChangeSpec := { name := "cellsStrict", fn := fun _ => fun
  | [d1, d2] => { results := [.lit (.bool true)], args := [d1, d2] }
  | _ => none }
def cellsStrictRow : OpenClaim := { program := "ytnhgfmbmfjmonaagreatdoor", sum := "e2405be6a2a7bd0dcb5154743e1c31c20829407daf5fd10a26f5773e7bd1c958", func := "floodgate/floodgatelaw06.CellsStrict", spec := "cellsStrict", inPlace := ["internal/abi.NoEscape"], unfollowed := true, recurses := true, named := ["internal/strconv.uint64pow10", "math/bits.deBruijn32tab", "math/bits.deBruijn64tab"], apart := false, laid := [("math/bits.deBruijn32tab", laid_math_bits_deBruijn32tab), ("math/bits.deBruijn64tab", laid_math_bits_deBruijn64tab), ("internal/strconv.uint64pow10", laid_internal_strconv_uint64pow10)] }
def CellsStrictSaid : Prop := cellsStrictRow.holds Tryz.pinned (OpenSpec.ofChange cellsStrictSpec)

/-- ITS FALSE NEIGHBOUR: 'it returns false'. Refute it at one input. -/
def cellsStrictWrong : ChangeSpec := { name := "cellsStrict", fn := fun _ => fun
  | [d1, d2] => { results := [.lit (.bool false)], args := [d1, d2] }
  | _ => none }
def CellsStrictWrongFalsely : Prop := cellsStrictRow.holds Tryz.pinned (OpenSpec.ofChange cellsStrictWrong)

/-- 'floodgatelaw06.CellsReckons': WHATEVER THE INPUT: true; the input reads as it did. -/
def cellsReckonsSpec : ChangeSpec := { name := "cellsReckons", fn := fun _ => fun
  | [d1, d2] => { results := [.lit (.bool true)], args := [d1, d2] }
  | _ => none }
def cellsReckonsRow : OpenClaim := { program := "ytnhgfmbmfjmonaagreatdoor", sum := "e2405be6a2a7bd0dcb5154743e1c31c20829407daf5fd10a26f5773e7bd1c958", func := "floodgate/floodgatelaw06.CellsReckons", spec := "cellsReckons", inPlace := ["internal/abi.NoEscape"], unfollowed := true, recurses := true, named := ["internal/strconv.uint64pow10", "math/bits.deBruijn32tab", "math/bits.deBruijn64tab"], apart := false, laid := [("math/bits.deBruijn32tab", laid_math_bits_deBruijn32tab), ("math/bits.deBruijn64tab", laid_math_bits_deBruijn64tab), ("internal/strconv.uint64pow10", laid_internal_strconv_uint64pow10)] }
def CellsReckonsSaid : Prop := cellsReckonsRow.holds Tryz.pinned (OpenSpec.ofChange cellsReckonsSpec)

/-- ITS FALSE NEIGHBOUR: 'it returns false'. Refute it at one input. -/
def cellsReckonsWrong : ChangeSpec := { name := "cellsReckons", fn := fun _ => fun
  | [d1, d2] => { results := [.lit (.bool false)], args := [d1, d2] }
  | _ => none }
def CellsReckonsWrongFalsely : Prop := cellsReckonsRow.holds Tryz.pinned (OpenSpec.ofChange cellsReckonsWrong)

/-- 'floodgatelaw06.CellsDrawn': WHATEVER THE INPUT: true; the input reads as it did. -/
def cellsDrawnSpec : ChangeSpec := { name := "cellsDrawn", fn := fun _ => fun
  | [d] => { results := [.lit (.bool true)], args := [d] }
  | _ => none }
def cellsDrawnRow : OpenClaim := { program := "ytnhgfmbmfjmonaagreatdoor", sum := "e2405be6a2a7bd0dcb5154743e1c31c20829407daf5fd10a26f5773e7bd1c958", func := "floodgate/floodgatelaw06.CellsDrawn", spec := "cellsDrawn", inPlace := ["internal/abi.NoEscape"], unfollowed := true, recurses := true, named := ["internal/strconv.uint64pow10", "math/bits.deBruijn32tab", "math/bits.deBruijn64tab"], apart := false, laid := [("math/bits.deBruijn32tab", laid_math_bits_deBruijn32tab), ("math/bits.deBruijn64tab", laid_math_bits_deBruijn64tab), ("internal/strconv.uint64pow10", laid_internal_strconv_uint64pow10)] }
def CellsDrawnSaid : Prop := cellsDrawnRow.holds Tryz.pinned (OpenSpec.ofChange cellsDrawnSpec)

/-- ITS FALSE NEIGHBOUR: 'it returns false'. Refute it at one input. -/
def cellsDrawnWrong : ChangeSpec := { name := "cellsDrawn", fn := fun _ => fun
  | [d] => { results := [.lit (.bool false)], args := [d] }
  | _ => none }
def CellsDrawnWrongFalsely : Prop := cellsDrawnRow.holds Tryz.pinned (OpenSpec.ofChange cellsDrawnWrong)

/-- 'floodgatelaw06.CellsDoes': WHATEVER THE INPUT: true; the input reads as it did. -/
def cellsDoesSpec : ChangeSpec := { name := "cellsDoes", fn := fun _ => fun
  | [d1, d2] => { results := [.lit (.bool true)], args := [d1, d2] }
  | _ => none }
def cellsDoesRow : OpenClaim := { program := "ytnhgfmbmfjmonaagreatdoor", sum := "e2405be6a2a7bd0dcb5154743e1c31c20829407daf5fd10a26f5773e7bd1c958", func := "floodgate/floodgatelaw06.CellsDoes", spec := "cellsDoes", inPlace := ["internal/abi.NoEscape"], unfollowed := true, recurses := true, named := ["internal/strconv.uint64pow10", "math/bits.deBruijn32tab", "math/bits.deBruijn64tab"], apart := false, laid := [("math/bits.deBruijn32tab", laid_math_bits_deBruijn32tab), ("math/bits.deBruijn64tab", laid_math_bits_deBruijn64tab), ("internal/strconv.uint64pow10", laid_internal_strconv_uint64pow10)] }
def CellsDoesSaid : Prop := cellsDoesRow.holds Tryz.pinned (OpenSpec.ofChange cellsDoesSpec)

/-- ITS FALSE NEIGHBOUR: 'it returns false'. Refute it at one input. -/
def cellsDoesWrong : ChangeSpec := { name := "cellsDoes", fn := fun _ => fun
  | [d1, d2] => { results := [.lit (.bool false)], args := [d1, d2] }
  | _ => none }
def CellsDoesWrongFalsely : Prop := cellsDoesRow.holds Tryz.pinned (OpenSpec.ofChange cellsDoesWrong)

/-- 'floodgatelaw06.CellsOrder': WHATEVER THE INPUT: true; the input reads as it did. -/
def cellsOrderSpec : ChangeSpec := { name := "cellsOrder", fn := fun _ => fun
  | [d] => { results := [.lit (.bool true)], args := [d] }
  | _ => none }
def cellsOrderRow : OpenClaim := { program := "ytnhgfmbmfjmonaagreatdoor", sum := "e2405be6a2a7bd0dcb5154743e1c31c20829407daf5fd10a26f5773e7bd1c958", func := "floodgate/floodgatelaw06.CellsOrder", spec := "cellsOrder", inPlace := ["internal/abi.NoEscape"], unfollowed := true, recurses := true, named := ["internal/strconv.uint64pow10", "math/bits.deBruijn32tab", "math/bits.deBruijn64tab"], apart := false, laid := [("math/bits.deBruijn32tab", laid_math_bits_deBruijn32tab), ("math/bits.deBruijn64tab", laid_math_bits_deBruijn64tab), ("internal/strconv.uint64pow10", laid_internal_strconv_uint64pow10)] }
def CellsOrderSaid : Prop := cellsOrderRow.holds Tryz.pinned (OpenSpec.ofChange cellsOrderSpec)

/-- ITS FALSE NEIGHBOUR: 'it returns false'. Refute it at one input. -/
def cellsOrderWrong : ChangeSpec := { name := "cellsOrder", fn := fun _ => fun
  | [d] => { results := [.lit (.bool false)], args := [d] }
  | _ => none }
def CellsOrderWrongFalsely : Prop := cellsOrderRow.holds Tryz.pinned (OpenSpec.ofChange cellsOrderWrong)

/-- 'floodgatelaw06.CellsStreams': WHATEVER THE INPUT: true; the input reads as it did. -/
def cellsStreamsSpec : ChangeSpec := { name := "cellsStreams", fn := fun _ => fun
  | [d1, d2, d3] => { results := [.lit (.bool true)], args := [d1, d2, d3] }
  | _ => none }
def cellsStreamsRow : OpenClaim := { program := "ytnhgfmbmfjmonaagreatdoor", sum := "e2405be6a2a7bd0dcb5154743e1c31c20829407daf5fd10a26f5773e7bd1c958", func := "floodgate/floodgatelaw06.CellsStreams", spec := "cellsStreams", inPlace := ["internal/abi.NoEscape"], unfollowed := true, recurses := true, named := ["internal/strconv.uint64pow10", "math/bits.deBruijn32tab", "math/bits.deBruijn64tab"], apart := false, laid := [("math/bits.deBruijn32tab", laid_math_bits_deBruijn32tab), ("math/bits.deBruijn64tab", laid_math_bits_deBruijn64tab), ("internal/strconv.uint64pow10", laid_internal_strconv_uint64pow10)] }
def CellsStreamsSaid : Prop := cellsStreamsRow.holds Tryz.pinned (OpenSpec.ofChange cellsStreamsSpec)

/-- ITS FALSE NEIGHBOUR: 'it returns false'. Refute it at one input. -/
def cellsStreamsWrong : ChangeSpec := { name := "cellsStreams", fn := fun _ => fun
  | [d1, d2, d3] => { results := [.lit (.bool false)], args := [d1, d2, d3] }
  | _ => none }
def CellsStreamsWrongFalsely : Prop := cellsStreamsRow.holds Tryz.pinned (OpenSpec.ofChange cellsStreamsWrong)

/-- 'floodgatelaw06.CellsChecks': WHATEVER THE INPUT: true; the input reads as it did. -/
def cellsChecksSpec : ChangeSpec := { name := "cellsChecks", fn := fun _ => fun
  | [d] => { results := [.lit (.bool true)], args := [d] }
  | _ => none }
def cellsChecksRow : OpenClaim := { program := "ytnhgfmbmfjmonaagreatdoor", sum := "e2405be6a2a7bd0dcb5154743e1c31c20829407daf5fd10a26f5773e7bd1c958", func := "floodgate/floodgatelaw06.CellsChecks", spec := "cellsChecks", inPlace := ["internal/abi.NoEscape"], unfollowed := true, recurses := true, named := ["internal/strconv.uint64pow10", "math/bits.deBruijn32tab", "math/bits.deBruijn64tab"], apart := false, laid := [("math/bits.deBruijn32tab", laid_math_bits_deBruijn32tab), ("math/bits.deBruijn64tab", laid_math_bits_deBruijn64tab), ("internal/strconv.uint64pow10", laid_internal_strconv_uint64pow10)] }
def CellsChecksSaid : Prop := cellsChecksRow.holds Tryz.pinned (OpenSpec.ofChange cellsChecksSpec)

/-- ITS FALSE NEIGHBOUR: 'it returns false'. Refute it at one input. -/
def cellsChecksWrong : ChangeSpec := { name := "cellsChecks", fn := fun _ => fun
  | [d] => { results := [.lit (.bool false)], args := [d] }
  | _ => none }
def CellsChecksWrongFalsely : Prop := cellsChecksRow.holds Tryz.pinned (OpenSpec.ofChange cellsChecksWrong)

/-- 'floodgatelaw06.CellsBelow': WHATEVER THE INPUT: true; the input reads as it did. -/
def cellsBelowSpec : ChangeSpec := { name := "cellsBelow", fn := fun _ => fun
  | [d1, d2] => { results := [.lit (.bool true)], args := [d1, d2] }
  | _ => none }
def cellsBelowRow : OpenClaim := { program := "ytnhgfmbmfjmonaagreatdoor", sum := "e2405be6a2a7bd0dcb5154743e1c31c20829407daf5fd10a26f5773e7bd1c958", func := "floodgate/floodgatelaw06.CellsBelow", spec := "cellsBelow", inPlace := ["internal/abi.NoEscape"], unfollowed := true, recurses := true, named := ["internal/strconv.uint64pow10", "math/bits.deBruijn32tab", "math/bits.deBruijn64tab"], apart := false, laid := [("math/bits.deBruijn32tab", laid_math_bits_deBruijn32tab), ("math/bits.deBruijn64tab", laid_math_bits_deBruijn64tab), ("internal/strconv.uint64pow10", laid_internal_strconv_uint64pow10)] }
def CellsBelowSaid : Prop := cellsBelowRow.holds Tryz.pinned (OpenSpec.ofChange cellsBelowSpec)

/-- ITS FALSE NEIGHBOUR: 'it returns false'. Refute it at one input. -/
def cellsBelowWrong : ChangeSpec := { name := "cellsBelow", fn := fun _ => fun
  | [d1, d2] => { results := [.lit (.bool false)], args := [d1, d2] }
  | _ => none }
def CellsBelowWrongFalsely : Prop := cellsBelowRow.holds Tryz.pinned (OpenSpec.ofChange cellsBelowWrong)

/-- 'floodgatelaw06.CellsLess': WHATEVER THE INPUT: true; the input reads as it did. -/
def cellsLessSpec : ChangeSpec := { name := "cellsLess", fn := fun _ => fun
  | [d1, d2, d3] => { results := [.lit (.bool true)], args := [d1, d2, d3] }
  | _ => none }
def cellsLessRow : OpenClaim := { program := "ytnhgfmbmfjmonaagreatdoor", sum := "e2405be6a2a7bd0dcb5154743e1c31c20829407daf5fd10a26f5773e7bd1c958", func := "floodgate/floodgatelaw06.CellsLess", spec := "cellsLess", inPlace := ["internal/abi.NoEscape"], unfollowed := true, recurses := true, named := ["internal/strconv.uint64pow10", "math/bits.deBruijn32tab", "math/bits.deBruijn64tab"], apart := false, laid := [("math/bits.deBruijn32tab", laid_math_bits_deBruijn32tab), ("math/bits.deBruijn64tab", laid_math_bits_deBruijn64tab), ("internal/strconv.uint64pow10", laid_internal_strconv_uint64pow10)] }
def CellsLessSaid : Prop := cellsLessRow.holds Tryz.pinned (OpenSpec.ofChange cellsLessSpec)

/-- ITS FALSE NEIGHBOUR: 'it returns false'. Refute it at one input. -/
def cellsLessWrong : ChangeSpec := { name := "cellsLess", fn := fun _ => fun
  | [d1, d2, d3] => { results := [.lit (.bool false)], args := [d1, d2, d3] }
  | _ => none }
def CellsLessWrongFalsely : Prop := cellsLessRow.holds Tryz.pinned (OpenSpec.ofChange cellsLessWrong)

/-- 'floodgatelaw06.CellsMore': WHATEVER THE INPUT: true; the input reads as it did. -/
def cellsMoreSpec : ChangeSpec := { name := "cellsMore", fn := fun _ => fun
  | [d] => { results := [.lit (.bool true)], args := [d] }
  | _ => none }
def cellsMoreRow : OpenClaim := { program := "ytnhgfmbmfjmonaagreatdoor", sum := "e2405be6a2a7bd0dcb5154743e1c31c20829407daf5fd10a26f5773e7bd1c958", func := "floodgate/floodgatelaw06.CellsMore", spec := "cellsMore", inPlace := ["internal/abi.NoEscape"], unfollowed := true, recurses := true, named := ["internal/strconv.uint64pow10", "math/bits.deBruijn32tab", "math/bits.deBruijn64tab"], apart := false, laid := [("math/bits.deBruijn32tab", laid_math_bits_deBruijn32tab), ("math/bits.deBruijn64tab", laid_math_bits_deBruijn64tab), ("internal/strconv.uint64pow10", laid_internal_strconv_uint64pow10)] }
def CellsMoreSaid : Prop := cellsMoreRow.holds Tryz.pinned (OpenSpec.ofChange cellsMoreSpec)

/-- ITS FALSE NEIGHBOUR: 'it returns false'. Refute it at one input. -/
def cellsMoreWrong : ChangeSpec := { name := "cellsMore", fn := fun _ => fun
  | [d] => { results := [.lit (.bool false)], args := [d] }
  | _ => none }
def CellsMoreWrongFalsely : Prop := cellsMoreRow.holds Tryz.pinned (OpenSpec.ofChange cellsMoreWrong)

/-- 'floodgatelaw06.CellsBuilds': WHATEVER THE INPUT: true; the input reads as it did. -/
def cellsBuildsSpec : ChangeSpec := { name := "cellsBuilds", fn := fun _ => fun
  | [d1, d2] => { results := [.lit (.bool true)], args := [d1, d2] }
  | _ => none }
def cellsBuildsRow : OpenClaim := { program := "ytnhgfmbmfjmonaagreatdoor", sum := "e2405be6a2a7bd0dcb5154743e1c31c20829407daf5fd10a26f5773e7bd1c958", func := "floodgate/floodgatelaw06.CellsBuilds", spec := "cellsBuilds", inPlace := ["internal/abi.NoEscape"], unfollowed := true, recurses := true, named := ["internal/strconv.uint64pow10", "math/bits.deBruijn32tab", "math/bits.deBruijn64tab"], apart := false, laid := [("math/bits.deBruijn32tab", laid_math_bits_deBruijn32tab), ("math/bits.deBruijn64tab", laid_math_bits_deBruijn64tab), ("internal/strconv.uint64pow10", laid_internal_strconv_uint64pow10)] }
def CellsBuildsSaid : Prop := cellsBuildsRow.holds Tryz.pinned (OpenSpec.ofChange cellsBuildsSpec)

/-- ITS FALSE NEIGHBOUR: 'it returns false'. Refute it at one input. -/
def cellsBuildsWrong : ChangeSpec := { name := "cellsBuilds", fn := fun _ => fun
  | [d1, d2] => { results := [.lit (.bool false)], args := [d1, d2] }
  | _ => none }
def CellsBuildsWrongFalsely : Prop := cellsBuildsRow.holds Tryz.pinned (OpenSpec.ofChange cellsBuildsWrong)

/-- 'floodgatelaw06.CellsBuilt': WHATEVER THE INPUT: true; the input reads as it did. -/
def cellsBuiltSpec : ChangeSpec := { name := "cellsBuilt", fn := fun _ => fun
  | [d1, d2] => { results := [.lit (.bool true)], args := [d1, d2] }
  | _ => none }
def cellsBuiltRow : OpenClaim := { program := "ytnhgfmbmfjmonaagreatdoor", sum := "e2405be6a2a7bd0dcb5154743e1c31c20829407daf5fd10a26f5773e7bd1c958", func := "floodgate/floodgatelaw06.CellsBuilt", spec := "cellsBuilt", inPlace := ["internal/abi.NoEscape"], unfollowed := true, recurses := true, named := ["internal/strconv.uint64pow10", "math/bits.deBruijn32tab", "math/bits.deBruijn64tab"], apart := false, laid := [("math/bits.deBruijn32tab", laid_math_bits_deBruijn32tab), ("math/bits.deBruijn64tab", laid_math_bits_deBruijn64tab), ("internal/strconv.uint64pow10", laid_internal_strconv_uint64pow10)] }
def CellsBuiltSaid : Prop := cellsBuiltRow.holds Tryz.pinned (OpenSpec.ofChange cellsBuiltSpec)

/-- ITS FALSE NEIGHBOUR: 'it returns false'. Refute it at one input. -/
def cellsBuiltWrong : ChangeSpec := { name := "cellsBuilt", fn := fun _ => fun
  | [d1, d2] => { results := [.lit (.bool false)], args := [d1, d2] }
  | _ => none }
def CellsBuiltWrongFalsely : Prop := cellsBuiltRow.holds Tryz.pinned (OpenSpec.ofChange cellsBuiltWrong)

/-- 'floodgatelaw06.CellsNames': WHATEVER THE INPUT: true; the input reads as it did. -/
def cellsNamesSpec : ChangeSpec := { name := "cellsNames", fn := fun _ => fun
  | [] => { results := [.lit (.bool true)], args := [] }
  | _ => none }
def cellsNamesRow : OpenClaim := { program := "ytnhgfmbmfjmonaagreatdoor", sum := "e2405be6a2a7bd0dcb5154743e1c31c20829407daf5fd10a26f5773e7bd1c958", func := "floodgate/floodgatelaw06.CellsNames", spec := "cellsNames", inPlace := ["internal/abi.NoEscape"], unfollowed := true, recurses := true, named := ["internal/strconv.uint64pow10", "math/bits.deBruijn32tab", "math/bits.deBruijn64tab"], apart := false, laid := [("math/bits.deBruijn32tab", laid_math_bits_deBruijn32tab), ("math/bits.deBruijn64tab", laid_math_bits_deBruijn64tab), ("internal/strconv.uint64pow10", laid_internal_strconv_uint64pow10)] }
def CellsNamesSaid : Prop := cellsNamesRow.holds Tryz.pinned (OpenSpec.ofChange cellsNamesSpec)

/-- ITS FALSE NEIGHBOUR: 'it returns false'. Refute it at one input. -/
def cellsNamesWrong : ChangeSpec := { name := "cellsNames", fn := fun _ => fun
  | [] => { results := [.lit (.bool false)], args := [] }
  | _ => none }
def CellsNamesWrongFalsely : Prop := cellsNamesRow.holds Tryz.pinned (OpenSpec.ofChange cellsNamesWrong)

/- THE SECOND FORM. 'bulk': how many values and letters a reading holds, each counted each time it is reached (what is shared counts as often as it is met; a slice's spare places count too). A statement '..UptoSaid' is the law's where the arguments, and the package variables that the reading takes, are together of bulk at most 1048576: NARROWER than '..Said'. Prove '..Said' where nothing that the law and all that it calls make is longer than what came in: it says more and counts as full. Else prove '..UptoSaid'. A law counts once. -/
mutual
def uptoBulk {H : Type} : DataW H → Nat
  | .lit (.string bytes) => bytes.length + 1
  | .lit _ => 1
  | .nil => 1
  | .ptr d => uptoBulk d + 1
  | .slice elems spare => uptoBulkAll elems + uptoBulkAll spare + 1
  | .agg parts => uptoBulkAll parts + 1
  | .iface _ d => uptoBulk d + 1
  | .map entries => uptoBulkEntries entries + 1
  | .held _ => 1
def uptoBulkAll {H : Type} : List (DataW H) → Nat
  | [] => 0
  | d :: r => uptoBulk d + uptoBulkAll r
def uptoBulkEntries {H : Type} : List (Lit × DataW H) → Nat
  | [] => 0
  | x :: r => uptoBulkEntry x + uptoBulkEntries r
def uptoBulkEntry {H : Type} : Lit × DataW H → Nat
  | (.string bytes, d) => bytes.length + uptoBulk d + 1
  | (_, d) => uptoBulk d + 1
 end
def uptoSmall : (H : Type) → List (DataW H) → Bool := fun _ ds => decide (uptoBulkAll ds ≤ 1048576)
def OpenSpec.upto (s : _root_.Go.ChangeSpec) : _root_.Go.OpenSpec := { _root_.Go.OpenSpec.ofChange s with cond := some uptoSmall }

/-- 'floodgatelaw06.CellsPlays', WHERE WHAT IT READS IS OF BULK AT MOST 1048576: true; the input reads as it did. -/
def cellsPlaysUptoRow : OpenClaim := { program := "ytnhgfmbmfjmonaagreatdoor", sum := "e2405be6a2a7bd0dcb5154743e1c31c20829407daf5fd10a26f5773e7bd1c958", func := "floodgate/floodgatelaw06.CellsPlays", spec := "cellsPlays", inPlace := ["internal/abi.NoEscape"], unfollowed := true, recurses := true, named := ["internal/strconv.uint64pow10", "math/bits.deBruijn32tab", "math/bits.deBruijn64tab"], apart := false, laid := [("math/bits.deBruijn32tab", laid_math_bits_deBruijn32tab), ("math/bits.deBruijn64tab", laid_math_bits_deBruijn64tab), ("internal/strconv.uint64pow10", laid_internal_strconv_uint64pow10)], narrowed := true }
def CellsPlaysUptoSaid : Prop := cellsPlaysUptoRow.holds Tryz.pinned (OpenSpec.upto cellsPlaysSpec)

/-- 'floodgatelaw06.CellsDraws', WHERE WHAT IT READS IS OF BULK AT MOST 1048576: true; the input reads as it did. -/
def cellsDrawsUptoRow : OpenClaim := { program := "ytnhgfmbmfjmonaagreatdoor", sum := "e2405be6a2a7bd0dcb5154743e1c31c20829407daf5fd10a26f5773e7bd1c958", func := "floodgate/floodgatelaw06.CellsDraws", spec := "cellsDraws", inPlace := ["internal/abi.NoEscape"], unfollowed := true, recurses := true, named := ["internal/strconv.uint64pow10", "math/bits.deBruijn32tab", "math/bits.deBruijn64tab"], apart := false, laid := [("math/bits.deBruijn32tab", laid_math_bits_deBruijn32tab), ("math/bits.deBruijn64tab", laid_math_bits_deBruijn64tab), ("internal/strconv.uint64pow10", laid_internal_strconv_uint64pow10)], narrowed := true }
def CellsDrawsUptoSaid : Prop := cellsDrawsUptoRow.holds Tryz.pinned (OpenSpec.upto cellsDrawsSpec)

/-- 'floodgatelaw06.CellsStrict', WHERE WHAT IT READS IS OF BULK AT MOST 1048576: true; the input reads as it did. -/
def cellsStrictUptoRow : OpenClaim := { program := "ytnhgfmbmfjmonaagreatdoor", sum := "e2405be6a2a7bd0dcb5154743e1c31c20829407daf5fd10a26f5773e7bd1c958", func := "floodgate/floodgatelaw06.CellsStrict", spec := "cellsStrict", inPlace := ["internal/abi.NoEscape"], unfollowed := true, recurses := true, named := ["internal/strconv.uint64pow10", "math/bits.deBruijn32tab", "math/bits.deBruijn64tab"], apart := false, laid := [("math/bits.deBruijn32tab", laid_math_bits_deBruijn32tab), ("math/bits.deBruijn64tab", laid_math_bits_deBruijn64tab), ("internal/strconv.uint64pow10", laid_internal_strconv_uint64pow10)], narrowed := true }
def CellsStrictUptoSaid : Prop := cellsStrictUptoRow.holds Tryz.pinned (OpenSpec.upto cellsStrictSpec)

/-- 'floodgatelaw06.CellsReckons', WHERE WHAT IT READS IS OF BULK AT MOST 1048576: true; the input reads as it did. -/
def cellsReckonsUptoRow : OpenClaim := { program := "ytnhgfmbmfjmonaagreatdoor", sum := "e2405be6a2a7bd0dcb5154743e1c31c20829407daf5fd10a26f5773e7bd1c958", func := "floodgate/floodgatelaw06.CellsReckons", spec := "cellsReckons", inPlace := ["internal/abi.NoEscape"], unfollowed := true, recurses := true, named := ["internal/strconv.uint64pow10", "math/bits.deBruijn32tab", "math/bits.deBruijn64tab"], apart := false, laid := [("math/bits.deBruijn32tab", laid_math_bits_deBruijn32tab), ("math/bits.deBruijn64tab", laid_math_bits_deBruijn64tab), ("internal/strconv.uint64pow10", laid_internal_strconv_uint64pow10)], narrowed := true }
def CellsReckonsUptoSaid : Prop := cellsReckonsUptoRow.holds Tryz.pinned (OpenSpec.upto cellsReckonsSpec)

/-- 'floodgatelaw06.CellsDrawn', WHERE WHAT IT READS IS OF BULK AT MOST 1048576: true; the input reads as it did. -/
def cellsDrawnUptoRow : OpenClaim := { program := "ytnhgfmbmfjmonaagreatdoor", sum := "e2405be6a2a7bd0dcb5154743e1c31c20829407daf5fd10a26f5773e7bd1c958", func := "floodgate/floodgatelaw06.CellsDrawn", spec := "cellsDrawn", inPlace := ["internal/abi.NoEscape"], unfollowed := true, recurses := true, named := ["internal/strconv.uint64pow10", "math/bits.deBruijn32tab", "math/bits.deBruijn64tab"], apart := false, laid := [("math/bits.deBruijn32tab", laid_math_bits_deBruijn32tab), ("math/bits.deBruijn64tab", laid_math_bits_deBruijn64tab), ("internal/strconv.uint64pow10", laid_internal_strconv_uint64pow10)], narrowed := true }
def CellsDrawnUptoSaid : Prop := cellsDrawnUptoRow.holds Tryz.pinned (OpenSpec.upto cellsDrawnSpec)

/-- 'floodgatelaw06.CellsDoes', WHERE WHAT IT READS IS OF BULK AT MOST 1048576: true; the input reads as it did. -/
def cellsDoesUptoRow : OpenClaim := { program := "ytnhgfmbmfjmonaagreatdoor", sum := "e2405be6a2a7bd0dcb5154743e1c31c20829407daf5fd10a26f5773e7bd1c958", func := "floodgate/floodgatelaw06.CellsDoes", spec := "cellsDoes", inPlace := ["internal/abi.NoEscape"], unfollowed := true, recurses := true, named := ["internal/strconv.uint64pow10", "math/bits.deBruijn32tab", "math/bits.deBruijn64tab"], apart := false, laid := [("math/bits.deBruijn32tab", laid_math_bits_deBruijn32tab), ("math/bits.deBruijn64tab", laid_math_bits_deBruijn64tab), ("internal/strconv.uint64pow10", laid_internal_strconv_uint64pow10)], narrowed := true }
def CellsDoesUptoSaid : Prop := cellsDoesUptoRow.holds Tryz.pinned (OpenSpec.upto cellsDoesSpec)

/-- 'floodgatelaw06.CellsOrder', WHERE WHAT IT READS IS OF BULK AT MOST 1048576: true; the input reads as it did. -/
def cellsOrderUptoRow : OpenClaim := { program := "ytnhgfmbmfjmonaagreatdoor", sum := "e2405be6a2a7bd0dcb5154743e1c31c20829407daf5fd10a26f5773e7bd1c958", func := "floodgate/floodgatelaw06.CellsOrder", spec := "cellsOrder", inPlace := ["internal/abi.NoEscape"], unfollowed := true, recurses := true, named := ["internal/strconv.uint64pow10", "math/bits.deBruijn32tab", "math/bits.deBruijn64tab"], apart := false, laid := [("math/bits.deBruijn32tab", laid_math_bits_deBruijn32tab), ("math/bits.deBruijn64tab", laid_math_bits_deBruijn64tab), ("internal/strconv.uint64pow10", laid_internal_strconv_uint64pow10)], narrowed := true }
def CellsOrderUptoSaid : Prop := cellsOrderUptoRow.holds Tryz.pinned (OpenSpec.upto cellsOrderSpec)

/-- 'floodgatelaw06.CellsStreams', WHERE WHAT IT READS IS OF BULK AT MOST 1048576: true; the input reads as it did. -/
def cellsStreamsUptoRow : OpenClaim := { program := "ytnhgfmbmfjmonaagreatdoor", sum := "e2405be6a2a7bd0dcb5154743e1c31c20829407daf5fd10a26f5773e7bd1c958", func := "floodgate/floodgatelaw06.CellsStreams", spec := "cellsStreams", inPlace := ["internal/abi.NoEscape"], unfollowed := true, recurses := true, named := ["internal/strconv.uint64pow10", "math/bits.deBruijn32tab", "math/bits.deBruijn64tab"], apart := false, laid := [("math/bits.deBruijn32tab", laid_math_bits_deBruijn32tab), ("math/bits.deBruijn64tab", laid_math_bits_deBruijn64tab), ("internal/strconv.uint64pow10", laid_internal_strconv_uint64pow10)], narrowed := true }
def CellsStreamsUptoSaid : Prop := cellsStreamsUptoRow.holds Tryz.pinned (OpenSpec.upto cellsStreamsSpec)

/-- 'floodgatelaw06.CellsChecks', WHERE WHAT IT READS IS OF BULK AT MOST 1048576: true; the input reads as it did. -/
def cellsChecksUptoRow : OpenClaim := { program := "ytnhgfmbmfjmonaagreatdoor", sum := "e2405be6a2a7bd0dcb5154743e1c31c20829407daf5fd10a26f5773e7bd1c958", func := "floodgate/floodgatelaw06.CellsChecks", spec := "cellsChecks", inPlace := ["internal/abi.NoEscape"], unfollowed := true, recurses := true, named := ["internal/strconv.uint64pow10", "math/bits.deBruijn32tab", "math/bits.deBruijn64tab"], apart := false, laid := [("math/bits.deBruijn32tab", laid_math_bits_deBruijn32tab), ("math/bits.deBruijn64tab", laid_math_bits_deBruijn64tab), ("internal/strconv.uint64pow10", laid_internal_strconv_uint64pow10)], narrowed := true }
def CellsChecksUptoSaid : Prop := cellsChecksUptoRow.holds Tryz.pinned (OpenSpec.upto cellsChecksSpec)

/-- 'floodgatelaw06.CellsBelow', WHERE WHAT IT READS IS OF BULK AT MOST 1048576: true; the input reads as it did. -/
def cellsBelowUptoRow : OpenClaim := { program := "ytnhgfmbmfjmonaagreatdoor", sum := "e2405be6a2a7bd0dcb5154743e1c31c20829407daf5fd10a26f5773e7bd1c958", func := "floodgate/floodgatelaw06.CellsBelow", spec := "cellsBelow", inPlace := ["internal/abi.NoEscape"], unfollowed := true, recurses := true, named := ["internal/strconv.uint64pow10", "math/bits.deBruijn32tab", "math/bits.deBruijn64tab"], apart := false, laid := [("math/bits.deBruijn32tab", laid_math_bits_deBruijn32tab), ("math/bits.deBruijn64tab", laid_math_bits_deBruijn64tab), ("internal/strconv.uint64pow10", laid_internal_strconv_uint64pow10)], narrowed := true }
def CellsBelowUptoSaid : Prop := cellsBelowUptoRow.holds Tryz.pinned (OpenSpec.upto cellsBelowSpec)

/-- 'floodgatelaw06.CellsLess', WHERE WHAT IT READS IS OF BULK AT MOST 1048576: true; the input reads as it did. -/
def cellsLessUptoRow : OpenClaim := { program := "ytnhgfmbmfjmonaagreatdoor", sum := "e2405be6a2a7bd0dcb5154743e1c31c20829407daf5fd10a26f5773e7bd1c958", func := "floodgate/floodgatelaw06.CellsLess", spec := "cellsLess", inPlace := ["internal/abi.NoEscape"], unfollowed := true, recurses := true, named := ["internal/strconv.uint64pow10", "math/bits.deBruijn32tab", "math/bits.deBruijn64tab"], apart := false, laid := [("math/bits.deBruijn32tab", laid_math_bits_deBruijn32tab), ("math/bits.deBruijn64tab", laid_math_bits_deBruijn64tab), ("internal/strconv.uint64pow10", laid_internal_strconv_uint64pow10)], narrowed := true }
def CellsLessUptoSaid : Prop := cellsLessUptoRow.holds Tryz.pinned (OpenSpec.upto cellsLessSpec)

/-- 'floodgatelaw06.CellsMore', WHERE WHAT IT READS IS OF BULK AT MOST 1048576: true; the input reads as it did. -/
def cellsMoreUptoRow : OpenClaim := { program := "ytnhgfmbmfjmonaagreatdoor", sum := "e2405be6a2a7bd0dcb5154743e1c31c20829407daf5fd10a26f5773e7bd1c958", func := "floodgate/floodgatelaw06.CellsMore", spec := "cellsMore", inPlace := ["internal/abi.NoEscape"], unfollowed := true, recurses := true, named := ["internal/strconv.uint64pow10", "math/bits.deBruijn32tab", "math/bits.deBruijn64tab"], apart := false, laid := [("math/bits.deBruijn32tab", laid_math_bits_deBruijn32tab), ("math/bits.deBruijn64tab", laid_math_bits_deBruijn64tab), ("internal/strconv.uint64pow10", laid_internal_strconv_uint64pow10)], narrowed := true }
def CellsMoreUptoSaid : Prop := cellsMoreUptoRow.holds Tryz.pinned (OpenSpec.upto cellsMoreSpec)

/-- 'floodgatelaw06.CellsBuilds', WHERE WHAT IT READS IS OF BULK AT MOST 1048576: true; the input reads as it did. -/
def cellsBuildsUptoRow : OpenClaim := { program := "ytnhgfmbmfjmonaagreatdoor", sum := "e2405be6a2a7bd0dcb5154743e1c31c20829407daf5fd10a26f5773e7bd1c958", func := "floodgate/floodgatelaw06.CellsBuilds", spec := "cellsBuilds", inPlace := ["internal/abi.NoEscape"], unfollowed := true, recurses := true, named := ["internal/strconv.uint64pow10", "math/bits.deBruijn32tab", "math/bits.deBruijn64tab"], apart := false, laid := [("math/bits.deBruijn32tab", laid_math_bits_deBruijn32tab), ("math/bits.deBruijn64tab", laid_math_bits_deBruijn64tab), ("internal/strconv.uint64pow10", laid_internal_strconv_uint64pow10)], narrowed := true }
def CellsBuildsUptoSaid : Prop := cellsBuildsUptoRow.holds Tryz.pinned (OpenSpec.upto cellsBuildsSpec)

/-- 'floodgatelaw06.CellsBuilt', WHERE WHAT IT READS IS OF BULK AT MOST 1048576: true; the input reads as it did. -/
def cellsBuiltUptoRow : OpenClaim := { program := "ytnhgfmbmfjmonaagreatdoor", sum := "e2405be6a2a7bd0dcb5154743e1c31c20829407daf5fd10a26f5773e7bd1c958", func := "floodgate/floodgatelaw06.CellsBuilt", spec := "cellsBuilt", inPlace := ["internal/abi.NoEscape"], unfollowed := true, recurses := true, named := ["internal/strconv.uint64pow10", "math/bits.deBruijn32tab", "math/bits.deBruijn64tab"], apart := false, laid := [("math/bits.deBruijn32tab", laid_math_bits_deBruijn32tab), ("math/bits.deBruijn64tab", laid_math_bits_deBruijn64tab), ("internal/strconv.uint64pow10", laid_internal_strconv_uint64pow10)], narrowed := true }
def CellsBuiltUptoSaid : Prop := cellsBuiltUptoRow.holds Tryz.pinned (OpenSpec.upto cellsBuiltSpec)

/-- 'floodgatelaw06.CellsNames', WHERE WHAT IT READS IS OF BULK AT MOST 1048576: true; the input reads as it did. -/
def cellsNamesUptoRow : OpenClaim := { program := "ytnhgfmbmfjmonaagreatdoor", sum := "e2405be6a2a7bd0dcb5154743e1c31c20829407daf5fd10a26f5773e7bd1c958", func := "floodgate/floodgatelaw06.CellsNames", spec := "cellsNames", inPlace := ["internal/abi.NoEscape"], unfollowed := true, recurses := true, named := ["internal/strconv.uint64pow10", "math/bits.deBruijn32tab", "math/bits.deBruijn64tab"], apart := false, laid := [("math/bits.deBruijn32tab", laid_math_bits_deBruijn32tab), ("math/bits.deBruijn64tab", laid_math_bits_deBruijn64tab), ("internal/strconv.uint64pow10", laid_internal_strconv_uint64pow10)], narrowed := true }
def CellsNamesUptoSaid : Prop := cellsNamesUptoRow.holds Tryz.pinned (OpenSpec.upto cellsNamesSpec)

end Rows
end Go.Proofs.YtnhgfmbmfjmonaaGreatDoor
