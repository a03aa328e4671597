/-
  NARROWER THAN 'FOR EVERY INPUT', by the rows' own cells (each row's printed sentence says how): CubeNews: laid · CubeChecks: laid · CubePuts: laid · CubeMoves: laid · CubeRuns: laid · CubeWays: laid · CubeNever: laid · CubeOnce: laid · CubeLonger: laid · CubeApart: laid · CubeRounds: laid · CubeLess: laid.
  DERIVED. THE GIVEN ROWS OF THIS SEAT. 12 by the template 'for every input the law returns true; each argument reads behind the call as it read before'; 0 by the template 'total and deterministic' (their statements: YtlfclnkoimfhmaaDoorTotals.lean).
  GIVEN WITH THE SEED: the statements are not yours to turn. If you find one false, say at which input.
  Laid BY PROGRAM, IN A SANDBOX (cutbox-rows.mjs): the forced cells as the released guide's own fill.sh prints them over the translation 3d7bed13bd3cb6f2… (all of the seat's roots in one cut). By AI agents, Wed Nov 11 2026. No macro, syntax, notation, axiom, sorry.
-/
import Derived.Test.YtlfclnkoimfhmaaDoorChecked
import GoSem.Claim
import GoSem.ClaimJoined
import GoSem.ClaimMapViews
import Derived.JoinedTies
import Derived.KernelRfl
namespace Go.Proofs.YtlfclnkoimfhmaaDoor
/- THE CELL 'sum', in the pinned program and in every row, IS THE sha256 OF THE DUMP (.gsa) THAT YtlfclnkoimfhmaaDoorProg.lean LOADS. Nothing in Lean hashes anything: it is a label: what it is worth is what the hold of that sum in a sandbox is worth. -/
noncomputable def Tryd.pinned : Pinned := { name := "ytlfclnkoimfhmaadoor", sum := "3d7bed13bd3cb6f2deafefc168d0bd2bfcd6115ad87509fc0d128c600ca4d35a", checked := Tryd.checked }
namespace Rows
def none {H : Type} : Left H := { results := [], args := [] }

/- WHAT THE LISTED PACKAGE-LEVEL VARIABLES READ AS WHEN THE CALL BEGINS. Each datum BY PROGRAM (the guide's laid-datum.mjs) off the statement by which the dump's own 'gosem.cut.vars' lays the variable. In a bare row this is a premise. The card (YtlfclnkoimfhmaaDoorCards.lean) ties it to the program's text. -/
def laid_math_bits_deBruijn32tab {H : Type} : DataW H := .agg [.lit (.int .u8 0), .lit (.int .u8 1), .lit (.int .u8 28), .lit (.int .u8 2), .lit (.int .u8 29), .lit (.int .u8 14), .lit (.int .u8 24), .lit (.int .u8 3), .lit (.int .u8 30), .lit (.int .u8 22), .lit (.int .u8 20), .lit (.int .u8 15), .lit (.int .u8 25), .lit (.int .u8 17), .lit (.int .u8 4), .lit (.int .u8 8), .lit (.int .u8 31), .lit (.int .u8 27), .lit (.int .u8 13), .lit (.int .u8 23), .lit (.int .u8 21), .lit (.int .u8 19), .lit (.int .u8 16), .lit (.int .u8 7), .lit (.int .u8 26), .lit (.int .u8 12), .lit (.int .u8 18), .lit (.int .u8 6), .lit (.int .u8 11), .lit (.int .u8 5), .lit (.int .u8 10), .lit (.int .u8 9)]
def laid_math_bits_deBruijn64tab {H : Type} : DataW H := .agg [.lit (.int .u8 0), .lit (.int .u8 1), .lit (.int .u8 56), .lit (.int .u8 2), .lit (.int .u8 57), .lit (.int .u8 49), .lit (.int .u8 28), .lit (.int .u8 3), .lit (.int .u8 61), .lit (.int .u8 58), .lit (.int .u8 42), .lit (.int .u8 50), .lit (.int .u8 38), .lit (.int .u8 29), .lit (.int .u8 17), .lit (.int .u8 4), .lit (.int .u8 62), .lit (.int .u8 47), .lit (.int .u8 59), .lit (.int .u8 36), .lit (.int .u8 45), .lit (.int .u8 43), .lit (.int .u8 51), .lit (.int .u8 22), .lit (.int .u8 53), .lit (.int .u8 39), .lit (.int .u8 33), .lit (.int .u8 30), .lit (.int .u8 24), .lit (.int .u8 18), .lit (.int .u8 12), .lit (.int .u8 5), .lit (.int .u8 63), .lit (.int .u8 55), .lit (.int .u8 48), .lit (.int .u8 27), .lit (.int .u8 60), .lit (.int .u8 41), .lit (.int .u8 37), .lit (.int .u8 16), .lit (.int .u8 46), .lit (.int .u8 35), .lit (.int .u8 44), .lit (.int .u8 21), .lit (.int .u8 52), .lit (.int .u8 32), .lit (.int .u8 23), .lit (.int .u8 11), .lit (.int .u8 54), .lit (.int .u8 26), .lit (.int .u8 40), .lit (.int .u8 15), .lit (.int .u8 34), .lit (.int .u8 20), .lit (.int .u8 31), .lit (.int .u8 10), .lit (.int .u8 25), .lit (.int .u8 14), .lit (.int .u8 19), .lit (.int .u8 9), .lit (.int .u8 13), .lit (.int .u8 8), .lit (.int .u8 7), .lit (.int .u8 6)]

/-- 'floodgatelaw16.CubeNews': WHATEVER THE INPUT: true; the input reads as it did. -/
def cubeNewsSpec : ChangeSpec := { name := "cubeNews", fn := fun _ => fun
  | [d1, d2, d3] => { results := [.lit (.bool true)], args := [d1, d2, d3] }
  | _ => none }
def cubeNewsRow : OpenClaim := { program := "ytlfclnkoimfhmaadoor", sum := "3d7bed13bd3cb6f2deafefc168d0bd2bfcd6115ad87509fc0d128c600ca4d35a", func := "floodgate/floodgatelaw16.CubeNews", spec := "cubeNews", unfollowed := true, recurses := true, named := ["math/bits.deBruijn32tab", "math/bits.deBruijn64tab"], plainKeys := false, apart := false, laid := [("math/bits.deBruijn32tab", laid_math_bits_deBruijn32tab), ("math/bits.deBruijn64tab", laid_math_bits_deBruijn64tab)] }
def CubeNewsSaid : Prop := cubeNewsRow.holds Tryd.pinned (OpenSpec.ofChange cubeNewsSpec)

/-- ITS FALSE NEIGHBOUR: 'it returns false'. Refute it at one input. -/
def cubeNewsWrong : ChangeSpec := { name := "cubeNews", fn := fun _ => fun
  | [d1, d2, d3] => { results := [.lit (.bool false)], args := [d1, d2, d3] }
  | _ => none }
def CubeNewsWrongFalsely : Prop := cubeNewsRow.holds Tryd.pinned (OpenSpec.ofChange cubeNewsWrong)

/-- 'floodgatelaw16.CubeChecks': WHATEVER THE INPUT: true; the input reads as it did. -/
def cubeChecksSpec : ChangeSpec := { name := "cubeChecks", fn := fun _ => fun
  | [d] => { results := [.lit (.bool true)], args := [d] }
  | _ => none }
def cubeChecksRow : OpenClaim := { program := "ytlfclnkoimfhmaadoor", sum := "3d7bed13bd3cb6f2deafefc168d0bd2bfcd6115ad87509fc0d128c600ca4d35a", func := "floodgate/floodgatelaw16.CubeChecks", spec := "cubeChecks", unfollowed := true, recurses := true, named := ["math/bits.deBruijn32tab", "math/bits.deBruijn64tab"], plainKeys := false, apart := false, laid := [("math/bits.deBruijn32tab", laid_math_bits_deBruijn32tab), ("math/bits.deBruijn64tab", laid_math_bits_deBruijn64tab)] }
def CubeChecksSaid : Prop := cubeChecksRow.holds Tryd.pinned (OpenSpec.ofChange cubeChecksSpec)

/-- ITS FALSE NEIGHBOUR: 'it returns false'. Refute it at one input. -/
def cubeChecksWrong : ChangeSpec := { name := "cubeChecks", fn := fun _ => fun
  | [d] => { results := [.lit (.bool false)], args := [d] }
  | _ => none }
def CubeChecksWrongFalsely : Prop := cubeChecksRow.holds Tryd.pinned (OpenSpec.ofChange cubeChecksWrong)

/-- 'floodgatelaw16.CubePuts': WHATEVER THE INPUT: true; the input reads as it did. -/
def cubePutsSpec : ChangeSpec := { name := "cubePuts", fn := fun _ => fun
  | [d1, d2] => { results := [.lit (.bool true)], args := [d1, d2] }
  | _ => none }
def cubePutsRow : OpenClaim := { program := "ytlfclnkoimfhmaadoor", sum := "3d7bed13bd3cb6f2deafefc168d0bd2bfcd6115ad87509fc0d128c600ca4d35a", func := "floodgate/floodgatelaw16.CubePuts", spec := "cubePuts", unfollowed := true, recurses := true, named := ["math/bits.deBruijn32tab", "math/bits.deBruijn64tab"], plainKeys := false, apart := false, laid := [("math/bits.deBruijn32tab", laid_math_bits_deBruijn32tab), ("math/bits.deBruijn64tab", laid_math_bits_deBruijn64tab)] }
def CubePutsSaid : Prop := cubePutsRow.holds Tryd.pinned (OpenSpec.ofChange cubePutsSpec)

/-- ITS FALSE NEIGHBOUR: 'it returns false'. Refute it at one input. -/
def cubePutsWrong : ChangeSpec := { name := "cubePuts", fn := fun _ => fun
  | [d1, d2] => { results := [.lit (.bool false)], args := [d1, d2] }
  | _ => none }
def CubePutsWrongFalsely : Prop := cubePutsRow.holds Tryd.pinned (OpenSpec.ofChange cubePutsWrong)

/-- 'floodgatelaw16.CubeMoves': WHATEVER THE INPUT: true; the input reads as it did. -/
def cubeMovesSpec : ChangeSpec := { name := "cubeMoves", fn := fun _ => fun
  | [d1, d2] => { results := [.lit (.bool true)], args := [d1, d2] }
  | _ => none }
def cubeMovesRow : OpenClaim := { program := "ytlfclnkoimfhmaadoor", sum := "3d7bed13bd3cb6f2deafefc168d0bd2bfcd6115ad87509fc0d128c600ca4d35a", func := "floodgate/floodgatelaw16.CubeMoves", spec := "cubeMoves", unfollowed := true, recurses := true, named := ["math/bits.deBruijn32tab", "math/bits.deBruijn64tab"], plainKeys := false, apart := false, laid := [("math/bits.deBruijn32tab", laid_math_bits_deBruijn32tab), ("math/bits.deBruijn64tab", laid_math_bits_deBruijn64tab)] }
def CubeMovesSaid : Prop := cubeMovesRow.holds Tryd.pinned (OpenSpec.ofChange cubeMovesSpec)

/-- ITS FALSE NEIGHBOUR: 'it returns false'. Refute it at one input. -/
def cubeMovesWrong : ChangeSpec := { name := "cubeMoves", fn := fun _ => fun
  | [d1, d2] => { results := [.lit (.bool false)], args := [d1, d2] }
  | _ => none }
def CubeMovesWrongFalsely : Prop := cubeMovesRow.holds Tryd.pinned (OpenSpec.ofChange cubeMovesWrong)

/-- 'floodgatelaw16.CubeRuns': WHATEVER THE INPUT: true; the input reads as it did. -/
def cubeRunsSpec : ChangeSpec := { name := "cubeRuns", fn := fun _ => fun
  | [d1, d2] => { results := [.lit (.bool true)], args := [d1, d2] }
  | _ => none }
def cubeRunsRow : OpenClaim := { program := "ytlfclnkoimfhmaadoor", sum := "3d7bed13bd3cb6f2deafefc168d0bd2bfcd6115ad87509fc0d128c600ca4d35a", func := "floodgate/floodgatelaw16.CubeRuns", spec := "cubeRuns", unfollowed := true, recurses := true, named := ["math/bits.deBruijn32tab", "math/bits.deBruijn64tab"], plainKeys := false, apart := false, laid := [("math/bits.deBruijn32tab", laid_math_bits_deBruijn32tab), ("math/bits.deBruijn64tab", laid_math_bits_deBruijn64tab)] }
def CubeRunsSaid : Prop := cubeRunsRow.holds Tryd.pinned (OpenSpec.ofChange cubeRunsSpec)

/-- ITS FALSE NEIGHBOUR: 'it returns false'. Refute it at one input. -/
def cubeRunsWrong : ChangeSpec := { name := "cubeRuns", fn := fun _ => fun
  | [d1, d2] => { results := [.lit (.bool false)], args := [d1, d2] }
  | _ => none }
def CubeRunsWrongFalsely : Prop := cubeRunsRow.holds Tryd.pinned (OpenSpec.ofChange cubeRunsWrong)

/-- 'floodgatelaw16.CubeWays': WHATEVER THE INPUT: true; the input reads as it did. -/
def cubeWaysSpec : ChangeSpec := { name := "cubeWays", fn := fun _ => fun
  | [d1, d2, d3] => { results := [.lit (.bool true)], args := [d1, d2, d3] }
  | _ => none }
def cubeWaysRow : OpenClaim := { program := "ytlfclnkoimfhmaadoor", sum := "3d7bed13bd3cb6f2deafefc168d0bd2bfcd6115ad87509fc0d128c600ca4d35a", func := "floodgate/floodgatelaw16.CubeWays", spec := "cubeWays", unfollowed := true, recurses := true, named := ["math/bits.deBruijn32tab", "math/bits.deBruijn64tab"], plainKeys := false, apart := false, laid := [("math/bits.deBruijn32tab", laid_math_bits_deBruijn32tab), ("math/bits.deBruijn64tab", laid_math_bits_deBruijn64tab)] }
def CubeWaysSaid : Prop := cubeWaysRow.holds Tryd.pinned (OpenSpec.ofChange cubeWaysSpec)

/-- ITS FALSE NEIGHBOUR: 'it returns false'. Refute it at one input. -/
def cubeWaysWrong : ChangeSpec := { name := "cubeWays", fn := fun _ => fun
  | [d1, d2, d3] => { results := [.lit (.bool false)], args := [d1, d2, d3] }
  | _ => none }
def CubeWaysWrongFalsely : Prop := cubeWaysRow.holds Tryd.pinned (OpenSpec.ofChange cubeWaysWrong)

/-- 'floodgatelaw16.CubeNever': WHATEVER THE INPUT: true; the input reads as it did. -/
def cubeNeverSpec : ChangeSpec := { name := "cubeNever", fn := fun _ => fun
  | [d1, d2] => { results := [.lit (.bool true)], args := [d1, d2] }
  | _ => none }
def cubeNeverRow : OpenClaim := { program := "ytlfclnkoimfhmaadoor", sum := "3d7bed13bd3cb6f2deafefc168d0bd2bfcd6115ad87509fc0d128c600ca4d35a", func := "floodgate/floodgatelaw16.CubeNever", spec := "cubeNever", unfollowed := true, recurses := true, named := ["math/bits.deBruijn32tab", "math/bits.deBruijn64tab"], plainKeys := false, apart := false, laid := [("math/bits.deBruijn32tab", laid_math_bits_deBruijn32tab), ("math/bits.deBruijn64tab", laid_math_bits_deBruijn64tab)] }
def CubeNeverSaid : Prop := cubeNeverRow.holds Tryd.pinned (OpenSpec.ofChange cubeNeverSpec)

/-- ITS FALSE NEIGHBOUR: 'it returns false'. Refute it at one input. -/
def cubeNeverWrong : ChangeSpec := { name := "cubeNever", fn := fun _ => fun
  | [d1, d2] => { results := [.lit (.bool false)], args := [d1, d2] }
  | _ => none }
def CubeNeverWrongFalsely : Prop := cubeNeverRow.holds Tryd.pinned (OpenSpec.ofChange cubeNeverWrong)

/-- 'floodgatelaw16.CubeOnce': WHATEVER THE INPUT: true; the input reads as it did. -/
def cubeOnceSpec : ChangeSpec := { name := "cubeOnce", fn := fun _ => fun
  | [d1, d2] => { results := [.lit (.bool true)], args := [d1, d2] }
  | _ => none }
def cubeOnceRow : OpenClaim := { program := "ytlfclnkoimfhmaadoor", sum := "3d7bed13bd3cb6f2deafefc168d0bd2bfcd6115ad87509fc0d128c600ca4d35a", func := "floodgate/floodgatelaw16.CubeOnce", spec := "cubeOnce", unfollowed := true, recurses := true, named := ["math/bits.deBruijn32tab", "math/bits.deBruijn64tab"], plainKeys := false, apart := false, laid := [("math/bits.deBruijn32tab", laid_math_bits_deBruijn32tab), ("math/bits.deBruijn64tab", laid_math_bits_deBruijn64tab)] }
def CubeOnceSaid : Prop := cubeOnceRow.holds Tryd.pinned (OpenSpec.ofChange cubeOnceSpec)

/-- ITS FALSE NEIGHBOUR: 'it returns false'. Refute it at one input. -/
def cubeOnceWrong : ChangeSpec := { name := "cubeOnce", fn := fun _ => fun
  | [d1, d2] => { results := [.lit (.bool false)], args := [d1, d2] }
  | _ => none }
def CubeOnceWrongFalsely : Prop := cubeOnceRow.holds Tryd.pinned (OpenSpec.ofChange cubeOnceWrong)

/-- 'floodgatelaw16.CubeLonger': WHATEVER THE INPUT: true; the input reads as it did. -/
def cubeLongerSpec : ChangeSpec := { name := "cubeLonger", fn := fun _ => fun
  | [d1, d2, d3] => { results := [.lit (.bool true)], args := [d1, d2, d3] }
  | _ => none }
def cubeLongerRow : OpenClaim := { program := "ytlfclnkoimfhmaadoor", sum := "3d7bed13bd3cb6f2deafefc168d0bd2bfcd6115ad87509fc0d128c600ca4d35a", func := "floodgate/floodgatelaw16.CubeLonger", spec := "cubeLonger", unfollowed := true, recurses := true, named := ["math/bits.deBruijn32tab", "math/bits.deBruijn64tab"], plainKeys := false, apart := false, laid := [("math/bits.deBruijn32tab", laid_math_bits_deBruijn32tab), ("math/bits.deBruijn64tab", laid_math_bits_deBruijn64tab)] }
def CubeLongerSaid : Prop := cubeLongerRow.holds Tryd.pinned (OpenSpec.ofChange cubeLongerSpec)

/-- ITS FALSE NEIGHBOUR: 'it returns false'. Refute it at one input. -/
def cubeLongerWrong : ChangeSpec := { name := "cubeLonger", fn := fun _ => fun
  | [d1, d2, d3] => { results := [.lit (.bool false)], args := [d1, d2, d3] }
  | _ => none }
def CubeLongerWrongFalsely : Prop := cubeLongerRow.holds Tryd.pinned (OpenSpec.ofChange cubeLongerWrong)

/-- 'floodgatelaw16.CubeApart': WHATEVER THE INPUT: true; the input reads as it did. -/
def cubeApartSpec : ChangeSpec := { name := "cubeApart", fn := fun _ => fun
  | [d1, d2, d3] => { results := [.lit (.bool true)], args := [d1, d2, d3] }
  | _ => none }
def cubeApartRow : OpenClaim := { program := "ytlfclnkoimfhmaadoor", sum := "3d7bed13bd3cb6f2deafefc168d0bd2bfcd6115ad87509fc0d128c600ca4d35a", func := "floodgate/floodgatelaw16.CubeApart", spec := "cubeApart", unfollowed := true, recurses := true, named := ["math/bits.deBruijn32tab", "math/bits.deBruijn64tab"], plainKeys := false, apart := false, laid := [("math/bits.deBruijn32tab", laid_math_bits_deBruijn32tab), ("math/bits.deBruijn64tab", laid_math_bits_deBruijn64tab)] }
def CubeApartSaid : Prop := cubeApartRow.holds Tryd.pinned (OpenSpec.ofChange cubeApartSpec)

/-- ITS FALSE NEIGHBOUR: 'it returns false'. Refute it at one input. -/
def cubeApartWrong : ChangeSpec := { name := "cubeApart", fn := fun _ => fun
  | [d1, d2, d3] => { results := [.lit (.bool false)], args := [d1, d2, d3] }
  | _ => none }
def CubeApartWrongFalsely : Prop := cubeApartRow.holds Tryd.pinned (OpenSpec.ofChange cubeApartWrong)

/-- 'floodgatelaw16.CubeRounds': WHATEVER THE INPUT: true; the input reads as it did. -/
def cubeRoundsSpec : ChangeSpec := { name := "cubeRounds", fn := fun _ => fun
  | [d] => { results := [.lit (.bool true)], args := [d] }
  | _ => none }
def cubeRoundsRow : OpenClaim := { program := "ytlfclnkoimfhmaadoor", sum := "3d7bed13bd3cb6f2deafefc168d0bd2bfcd6115ad87509fc0d128c600ca4d35a", func := "floodgate/floodgatelaw16.CubeRounds", spec := "cubeRounds", unfollowed := true, recurses := true, named := ["math/bits.deBruijn32tab", "math/bits.deBruijn64tab"], plainKeys := false, apart := false, laid := [("math/bits.deBruijn32tab", laid_math_bits_deBruijn32tab), ("math/bits.deBruijn64tab", laid_math_bits_deBruijn64tab)] }
def CubeRoundsSaid : Prop := cubeRoundsRow.holds Tryd.pinned (OpenSpec.ofChange cubeRoundsSpec)

/-- ITS FALSE NEIGHBOUR: 'it returns false'. Refute it at one input. -/
def cubeRoundsWrong : ChangeSpec := { name := "cubeRounds", fn := fun _ => fun
  | [d] => { results := [.lit (.bool false)], args := [d] }
  | _ => none }
def CubeRoundsWrongFalsely : Prop := cubeRoundsRow.holds Tryd.pinned (OpenSpec.ofChange cubeRoundsWrong)

/-- 'floodgatelaw16.CubeLess': WHATEVER THE INPUT: true; the input reads as it did. -/
def cubeLessSpec : ChangeSpec := { name := "cubeLess", fn := fun _ => fun
  | [d] => { results := [.lit (.bool true)], args := [d] }
  | _ => none }
def cubeLessRow : OpenClaim := { program := "ytlfclnkoimfhmaadoor", sum := "3d7bed13bd3cb6f2deafefc168d0bd2bfcd6115ad87509fc0d128c600ca4d35a", func := "floodgate/floodgatelaw16.CubeLess", spec := "cubeLess", unfollowed := true, recurses := true, named := ["math/bits.deBruijn32tab", "math/bits.deBruijn64tab"], plainKeys := false, apart := false, laid := [("math/bits.deBruijn32tab", laid_math_bits_deBruijn32tab), ("math/bits.deBruijn64tab", laid_math_bits_deBruijn64tab)] }
def CubeLessSaid : Prop := cubeLessRow.holds Tryd.pinned (OpenSpec.ofChange cubeLessSpec)

/-- ITS FALSE NEIGHBOUR: 'it returns false'. Refute it at one input. -/
def cubeLessWrong : ChangeSpec := { name := "cubeLess", fn := fun _ => fun
  | [d] => { results := [.lit (.bool false)], args := [d] }
  | _ => none }
def CubeLessWrongFalsely : Prop := cubeLessRow.holds Tryd.pinned (OpenSpec.ofChange cubeLessWrong)

/- THE SECOND FORM. 'bulk': how many values and letters a reading holds, each counted each time it is reached (what is shared counts as often as it is met; a slice's spare places count too). A statement '..UptoSaid' is the law's where the arguments, and the package variables that the reading takes, are together of bulk at most 1048576: NARROWER than '..Said'. Prove '..Said' where nothing that the law and all that it calls make is longer than what came in: it says more and counts as full. Else prove '..UptoSaid'. A law counts once. -/
mutual
def uptoBulk {H : Type} : DataW H → Nat
  | .lit (.string bytes) => bytes.length + 1
  | .lit _ => 1
  | .nil => 1
  | .ptr d => uptoBulk d + 1
  | .slice elems spare => uptoBulkAll elems + uptoBulkAll spare + 1
  | .agg parts => uptoBulkAll parts + 1
  | .iface _ d => uptoBulk d + 1
  | .map entries => uptoBulkEntries entries + 1
  | .held _ => 1
def uptoBulkAll {H : Type} : List (DataW H) → Nat
  | [] => 0
  | d :: r => uptoBulk d + uptoBulkAll r
def uptoBulkEntries {H : Type} : List (Lit × DataW H) → Nat
  | [] => 0
  | x :: r => uptoBulkEntry x + uptoBulkEntries r
def uptoBulkEntry {H : Type} : Lit × DataW H → Nat
  | (.string bytes, d) => bytes.length + uptoBulk d + 1
  | (_, d) => uptoBulk d + 1
 end
def uptoSmall : (H : Type) → List (DataW H) → Bool := fun _ ds => decide (uptoBulkAll ds ≤ 1048576)
def OpenSpec.upto (s : _root_.Go.ChangeSpec) : _root_.Go.OpenSpec := { _root_.Go.OpenSpec.ofChange s with cond := some uptoSmall }

/-- 'floodgatelaw16.CubeNews', WHERE WHAT IT READS IS OF BULK AT MOST 1048576: true; the input reads as it did. -/
def cubeNewsUptoRow : OpenClaim := { program := "ytlfclnkoimfhmaadoor", sum := "3d7bed13bd3cb6f2deafefc168d0bd2bfcd6115ad87509fc0d128c600ca4d35a", func := "floodgate/floodgatelaw16.CubeNews", spec := "cubeNews", unfollowed := true, recurses := true, named := ["math/bits.deBruijn32tab", "math/bits.deBruijn64tab"], plainKeys := false, apart := false, laid := [("math/bits.deBruijn32tab", laid_math_bits_deBruijn32tab), ("math/bits.deBruijn64tab", laid_math_bits_deBruijn64tab)], narrowed := true }
def CubeNewsUptoSaid : Prop := cubeNewsUptoRow.holds Tryd.pinned (OpenSpec.upto cubeNewsSpec)

/-- 'floodgatelaw16.CubeChecks', WHERE WHAT IT READS IS OF BULK AT MOST 1048576: true; the input reads as it did. -/
def cubeChecksUptoRow : OpenClaim := { program := "ytlfclnkoimfhmaadoor", sum := "3d7bed13bd3cb6f2deafefc168d0bd2bfcd6115ad87509fc0d128c600ca4d35a", func := "floodgate/floodgatelaw16.CubeChecks", spec := "cubeChecks", unfollowed := true, recurses := true, named := ["math/bits.deBruijn32tab", "math/bits.deBruijn64tab"], plainKeys := false, apart := false, laid := [("math/bits.deBruijn32tab", laid_math_bits_deBruijn32tab), ("math/bits.deBruijn64tab", laid_math_bits_deBruijn64tab)], narrowed := true }
def CubeChecksUptoSaid : Prop := cubeChecksUptoRow.holds Tryd.pinned (OpenSpec.upto cubeChecksSpec)

/-- 'floodgatelaw16.CubePuts', WHERE WHAT IT READS IS OF BULK AT MOST 1048576: true; the input reads as it did. -/
def cubePutsUptoRow : OpenClaim := { program := "ytlfclnkoimfhmaadoor", sum := "3d7bed13bd3cb6f2deafefc168d0bd2bfcd6115ad87509fc0d128c600ca4d35a", func := "floodgate/floodgatelaw16.CubePuts", spec := "cubePuts", unfollowed := true, recurses := true, named := ["math/bits.deBruijn32tab", "math/bits.deBruijn64tab"], plainKeys := false, apart := false, laid := [("math/bits.deBruijn32tab", laid_math_bits_deBruijn32tab), ("math/bits.deBruijn64tab", laid_math_bits_deBruijn64tab)], narrowed := true }
def CubePutsUptoSaid : Prop := cubePutsUptoRow.holds Tryd.pinned (OpenSpec.upto cubePutsSpec)

/-- 'floodgatelaw16.CubeMoves', WHERE WHAT IT READS IS OF BULK AT MOST 1048576: true; the input reads as it did. -/
def cubeMovesUptoRow : OpenClaim := { program := "ytlfclnkoimfhmaadoor", sum := "3d7bed13bd3cb6f2deafefc168d0bd2bfcd6115ad87509fc0d128c600ca4d35a", func := "floodgate/floodgatelaw16.CubeMoves", spec := "cubeMoves", unfollowed := true, recurses := true, named := ["math/bits.deBruijn32tab", "math/bits.deBruijn64tab"], plainKeys := false, apart := false, laid := [("math/bits.deBruijn32tab", laid_math_bits_deBruijn32tab), ("math/bits.deBruijn64tab", laid_math_bits_deBruijn64tab)], narrowed := true }
def CubeMovesUptoSaid : Prop := cubeMovesUptoRow.holds Tryd.pinned (OpenSpec.upto cubeMovesSpec)

/-- 'floodgatelaw16.CubeRuns', WHERE WHAT IT READS IS OF BULK AT MOST 1048576: true; the input reads as it did. -/
def cubeRunsUptoRow : OpenClaim := { program := "ytlfclnkoimfhmaadoor", sum := "3d7bed13bd3cb6f2deafefc168d0bd2bfcd6115ad87509fc0d128c600ca4d35a", func := "floodgate/floodgatelaw16.CubeRuns", spec := "cubeRuns", unfollowed := true, recurses := true, named := ["math/bits.deBruijn32tab", "math/bits.deBruijn64tab"], plainKeys := false, apart := false, laid := [("math/bits.deBruijn32tab", laid_math_bits_deBruijn32tab), ("math/bits.deBruijn64tab", laid_math_bits_deBruijn64tab)], narrowed := true }
def CubeRunsUptoSaid : Prop := cubeRunsUptoRow.holds Tryd.pinned (OpenSpec.upto cubeRunsSpec)

/-- 'floodgatelaw16.CubeWays', WHERE WHAT IT READS IS OF BULK AT MOST 1048576: true; the input reads as it did. -/
def cubeWaysUptoRow : OpenClaim := { program := "ytlfclnkoimfhmaadoor", sum := "3d7bed13bd3cb6f2deafefc168d0bd2bfcd6115ad87509fc0d128c600ca4d35a", func := "floodgate/floodgatelaw16.CubeWays", spec := "cubeWays", unfollowed := true, recurses := true, named := ["math/bits.deBruijn32tab", "math/bits.deBruijn64tab"], plainKeys := false, apart := false, laid := [("math/bits.deBruijn32tab", laid_math_bits_deBruijn32tab), ("math/bits.deBruijn64tab", laid_math_bits_deBruijn64tab)], narrowed := true }
def CubeWaysUptoSaid : Prop := cubeWaysUptoRow.holds Tryd.pinned (OpenSpec.upto cubeWaysSpec)

/-- 'floodgatelaw16.CubeNever', WHERE WHAT IT READS IS OF BULK AT MOST 1048576: true; the input reads as it did. -/
def cubeNeverUptoRow : OpenClaim := { program := "ytlfclnkoimfhmaadoor", sum := "3d7bed13bd3cb6f2deafefc168d0bd2bfcd6115ad87509fc0d128c600ca4d35a", func := "floodgate/floodgatelaw16.CubeNever", spec := "cubeNever", unfollowed := true, recurses := true, named := ["math/bits.deBruijn32tab", "math/bits.deBruijn64tab"], plainKeys := false, apart := false, laid := [("math/bits.deBruijn32tab", laid_math_bits_deBruijn32tab), ("math/bits.deBruijn64tab", laid_math_bits_deBruijn64tab)], narrowed := true }
def CubeNeverUptoSaid : Prop := cubeNeverUptoRow.holds Tryd.pinned (OpenSpec.upto cubeNeverSpec)

/-- 'floodgatelaw16.CubeOnce', WHERE WHAT IT READS IS OF BULK AT MOST 1048576: true; the input reads as it did. -/
def cubeOnceUptoRow : OpenClaim := { program := "ytlfclnkoimfhmaadoor", sum := "3d7bed13bd3cb6f2deafefc168d0bd2bfcd6115ad87509fc0d128c600ca4d35a", func := "floodgate/floodgatelaw16.CubeOnce", spec := "cubeOnce", unfollowed := true, recurses := true, named := ["math/bits.deBruijn32tab", "math/bits.deBruijn64tab"], plainKeys := false, apart := false, laid := [("math/bits.deBruijn32tab", laid_math_bits_deBruijn32tab), ("math/bits.deBruijn64tab", laid_math_bits_deBruijn64tab)], narrowed := true }
def CubeOnceUptoSaid : Prop := cubeOnceUptoRow.holds Tryd.pinned (OpenSpec.upto cubeOnceSpec)

/-- 'floodgatelaw16.CubeLonger', WHERE WHAT IT READS IS OF BULK AT MOST 1048576: true; the input reads as it did. -/
def cubeLongerUptoRow : OpenClaim := { program := "ytlfclnkoimfhmaadoor", sum := "3d7bed13bd3cb6f2deafefc168d0bd2bfcd6115ad87509fc0d128c600ca4d35a", func := "floodgate/floodgatelaw16.CubeLonger", spec := "cubeLonger", unfollowed := true, recurses := true, named := ["math/bits.deBruijn32tab", "math/bits.deBruijn64tab"], plainKeys := false, apart := false, laid := [("math/bits.deBruijn32tab", laid_math_bits_deBruijn32tab), ("math/bits.deBruijn64tab", laid_math_bits_deBruijn64tab)], narrowed := true }
def CubeLongerUptoSaid : Prop := cubeLongerUptoRow.holds Tryd.pinned (OpenSpec.upto cubeLongerSpec)

/-- 'floodgatelaw16.CubeApart', WHERE WHAT IT READS IS OF BULK AT MOST 1048576: true; the input reads as it did. -/
def cubeApartUptoRow : OpenClaim := { program := "ytlfclnkoimfhmaadoor", sum := "3d7bed13bd3cb6f2deafefc168d0bd2bfcd6115ad87509fc0d128c600ca4d35a", func := "floodgate/floodgatelaw16.CubeApart", spec := "cubeApart", unfollowed := true, recurses := true, named := ["math/bits.deBruijn32tab", "math/bits.deBruijn64tab"], plainKeys := false, apart := false, laid := [("math/bits.deBruijn32tab", laid_math_bits_deBruijn32tab), ("math/bits.deBruijn64tab", laid_math_bits_deBruijn64tab)], narrowed := true }
def CubeApartUptoSaid : Prop := cubeApartUptoRow.holds Tryd.pinned (OpenSpec.upto cubeApartSpec)

/-- 'floodgatelaw16.CubeRounds', WHERE WHAT IT READS IS OF BULK AT MOST 1048576: true; the input reads as it did. -/
def cubeRoundsUptoRow : OpenClaim := { program := "ytlfclnkoimfhmaadoor", sum := "3d7bed13bd3cb6f2deafefc168d0bd2bfcd6115ad87509fc0d128c600ca4d35a", func := "floodgate/floodgatelaw16.CubeRounds", spec := "cubeRounds", unfollowed := true, recurses := true, named := ["math/bits.deBruijn32tab", "math/bits.deBruijn64tab"], plainKeys := false, apart := false, laid := [("math/bits.deBruijn32tab", laid_math_bits_deBruijn32tab), ("math/bits.deBruijn64tab", laid_math_bits_deBruijn64tab)], narrowed := true }
def CubeRoundsUptoSaid : Prop := cubeRoundsUptoRow.holds Tryd.pinned (OpenSpec.upto cubeRoundsSpec)

/-- 'floodgatelaw16.CubeLess', WHERE WHAT IT READS IS OF BULK AT MOST 1048576: true; the input reads as it did. -/
def cubeLessUptoRow : OpenClaim := { program := "ytlfclnkoimfhmaadoor", sum := "3d7bed13bd3cb6f2deafefc168d0bd2bfcd6115ad87509fc0d128c600ca4d35a", func := "floodgate/floodgatelaw16.CubeLess", spec := "cubeLess", unfollowed := true, recurses := true, named := ["math/bits.deBruijn32tab", "math/bits.deBruijn64tab"], plainKeys := false, apart := false, laid := [("math/bits.deBruijn32tab", laid_math_bits_deBruijn32tab), ("math/bits.deBruijn64tab", laid_math_bits_deBruijn64tab)], narrowed := true }
def CubeLessUptoSaid : Prop := cubeLessUptoRow.holds Tryd.pinned (OpenSpec.upto cubeLessSpec)

end Rows
end Go.Proofs.YtlfclnkoimfhmaaDoor
