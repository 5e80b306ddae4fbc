/-
  NARROWER THAN 'FOR EVERY INPUT', by the rows' own cells (each row's printed sentence says how): LinesChecks: laid · LinesBasis: laid · LinesDependent: laid · LinesConstant: laid · LinesSpan: laid · LinesDimension: laid · LinesComplements: laid · LinesTurned: laid · LinesNormal: laid · LinesSums: laid · LinesKinds: laid · LinesSystems: laid · LinesGraphs: laid.
  DERIVED. THE GIVEN ROWS OF THIS SEAT. 13 by the template 'for every input the law returns true; each argument reads behind the call as it read before'; 0 by the template 'total and deterministic' (their statements: YtfgpjkchdelphaaGreatDoorTotals.lean).
  GIVEN WITH THE SEED: the statements are not yours to turn. If you find one false, say at which input.
  Laid BY PROGRAM, IN A SANDBOX (cutbox-rows.mjs): the forced cells as the released guide's own fill.sh prints them over the translation 4baa00b3e3db6d9a… (all of the seat's roots in one cut). By AI agents, Wed Nov 11 2026. No macro, syntax, notation, axiom, sorry.
-/
import Derived.Test.YtfgpjkchdelphaaGreatDoorChecked
import GoSem.Claim
import GoSem.ClaimJoined
import GoSem.ClaimMapViews
import Derived.JoinedTies
import Derived.KernelRfl
namespace Go.Proofs.YtfgpjkchdelphaaGreatDoor
/- THE CELL 'sum', in the pinned program and in every row, IS THE sha256 OF THE DUMP (.gsa) THAT YtfgpjkchdelphaaGreatDoorProg.lean LOADS. Nothing in Lean hashes anything: it is a label: what it is worth is what the hold of that sum in a sandbox is worth. -/
noncomputable def Tryz.pinned : Pinned := { name := "ytfgpjkchdelphaagreatdoor", sum := "4baa00b3e3db6d9a303a8cf8027592b5ae6bd75175339606ee20a2e2a66f7a6f", checked := Tryz.checked }
namespace Rows
def none {H : Type} : Left H := { results := [], args := [] }

/- WHAT THE LISTED PACKAGE-LEVEL VARIABLES READ AS WHEN THE CALL BEGINS. Each datum BY PROGRAM (the guide's laid-datum.mjs) off the statement by which the dump's own 'gosem.cut.vars' lays the variable. In a bare row this is a premise. The card (YtfgpjkchdelphaaGreatDoorCards.lean) ties it to the program's text. -/
def laid_math_bits_deBruijn32tab {H : Type} : DataW H := .agg [.lit (.int .u8 0), .lit (.int .u8 1), .lit (.int .u8 28), .lit (.int .u8 2), .lit (.int .u8 29), .lit (.int .u8 14), .lit (.int .u8 24), .lit (.int .u8 3), .lit (.int .u8 30), .lit (.int .u8 22), .lit (.int .u8 20), .lit (.int .u8 15), .lit (.int .u8 25), .lit (.int .u8 17), .lit (.int .u8 4), .lit (.int .u8 8), .lit (.int .u8 31), .lit (.int .u8 27), .lit (.int .u8 13), .lit (.int .u8 23), .lit (.int .u8 21), .lit (.int .u8 19), .lit (.int .u8 16), .lit (.int .u8 7), .lit (.int .u8 26), .lit (.int .u8 12), .lit (.int .u8 18), .lit (.int .u8 6), .lit (.int .u8 11), .lit (.int .u8 5), .lit (.int .u8 10), .lit (.int .u8 9)]
def laid_math_bits_deBruijn64tab {H : Type} : DataW H := .agg [.lit (.int .u8 0), .lit (.int .u8 1), .lit (.int .u8 56), .lit (.int .u8 2), .lit (.int .u8 57), .lit (.int .u8 49), .lit (.int .u8 28), .lit (.int .u8 3), .lit (.int .u8 61), .lit (.int .u8 58), .lit (.int .u8 42), .lit (.int .u8 50), .lit (.int .u8 38), .lit (.int .u8 29), .lit (.int .u8 17), .lit (.int .u8 4), .lit (.int .u8 62), .lit (.int .u8 47), .lit (.int .u8 59), .lit (.int .u8 36), .lit (.int .u8 45), .lit (.int .u8 43), .lit (.int .u8 51), .lit (.int .u8 22), .lit (.int .u8 53), .lit (.int .u8 39), .lit (.int .u8 33), .lit (.int .u8 30), .lit (.int .u8 24), .lit (.int .u8 18), .lit (.int .u8 12), .lit (.int .u8 5), .lit (.int .u8 63), .lit (.int .u8 55), .lit (.int .u8 48), .lit (.int .u8 27), .lit (.int .u8 60), .lit (.int .u8 41), .lit (.int .u8 37), .lit (.int .u8 16), .lit (.int .u8 46), .lit (.int .u8 35), .lit (.int .u8 44), .lit (.int .u8 21), .lit (.int .u8 52), .lit (.int .u8 32), .lit (.int .u8 23), .lit (.int .u8 11), .lit (.int .u8 54), .lit (.int .u8 26), .lit (.int .u8 40), .lit (.int .u8 15), .lit (.int .u8 34), .lit (.int .u8 20), .lit (.int .u8 31), .lit (.int .u8 10), .lit (.int .u8 25), .lit (.int .u8 14), .lit (.int .u8 19), .lit (.int .u8 9), .lit (.int .u8 13), .lit (.int .u8 8), .lit (.int .u8 7), .lit (.int .u8 6)]
def laid_internal_strconv_uint64pow10 {H : Type} : DataW H := .agg [.lit (.int .u64 1), .lit (.int .u64 10), .lit (.int .u64 100), .lit (.int .u64 1000), .lit (.int .u64 10000), .lit (.int .u64 100000), .lit (.int .u64 1000000), .lit (.int .u64 10000000), .lit (.int .u64 100000000), .lit (.int .u64 1000000000), .lit (.int .u64 10000000000), .lit (.int .u64 100000000000), .lit (.int .u64 1000000000000), .lit (.int .u64 10000000000000), .lit (.int .u64 100000000000000), .lit (.int .u64 1000000000000000), .lit (.int .u64 10000000000000000), .lit (.int .u64 100000000000000000), .lit (.int .u64 1000000000000000000), .lit (.int .u64 10000000000000000000)]

/-- 'talismanlaw02.LinesChecks': WHATEVER THE INPUT: true; the input reads as it did. -/
def linesChecksSpec : ChangeSpec := { name := "linesChecks", fn := fun _ => fun
  | [d1, d2] => { results := [.lit (.bool true)], args := [d1, d2] }
  | _ => none }
def linesChecksRow : OpenClaim := { program := "ytfgpjkchdelphaagreatdoor", sum := "4baa00b3e3db6d9a303a8cf8027592b5ae6bd75175339606ee20a2e2a66f7a6f", func := "talisman/talismanlaw02.LinesChecks", spec := "linesChecks", inPlace := ["internal/abi.NoEscape", "internal/bytealg.MakeNoZero", "math/bits.Add64", "math/bits.Sub64"], unfollowed := true, recurses := true, named := ["internal/strconv.uint64pow10", "math/bits.deBruijn32tab", "math/bits.deBruijn64tab", "math/bits.divideError", "math/bits.overflowError"], apart := false, laid := [("math/bits.deBruijn32tab", laid_math_bits_deBruijn32tab), ("math/bits.deBruijn64tab", laid_math_bits_deBruijn64tab), ("internal/strconv.uint64pow10", laid_internal_strconv_uint64pow10)] }
def LinesChecksSaid : Prop := linesChecksRow.holds Tryz.pinned (OpenSpec.ofChange linesChecksSpec)

/-- ITS FALSE NEIGHBOUR: 'it returns false'. Refute it at one input. -/
def linesChecksWrong : ChangeSpec := { name := "linesChecks", fn := fun _ => fun
  | [d1, d2] => { results := [.lit (.bool false)], args := [d1, d2] }
  | _ => none }
def LinesChecksWrongFalsely : Prop := linesChecksRow.holds Tryz.pinned (OpenSpec.ofChange linesChecksWrong)

/-- 'talismanlaw02.LinesBasis': WHATEVER THE INPUT: true; the input reads as it did. -/
def linesBasisSpec : ChangeSpec := { name := "linesBasis", fn := fun _ => fun
  | [d1, d2] => { results := [.lit (.bool true)], args := [d1, d2] }
  | _ => none }
def linesBasisRow : OpenClaim := { program := "ytfgpjkchdelphaagreatdoor", sum := "4baa00b3e3db6d9a303a8cf8027592b5ae6bd75175339606ee20a2e2a66f7a6f", func := "talisman/talismanlaw02.LinesBasis", spec := "linesBasis", inPlace := ["internal/abi.NoEscape", "internal/bytealg.MakeNoZero", "math/bits.Add64", "math/bits.Sub64"], unfollowed := true, recurses := true, named := ["internal/strconv.uint64pow10", "math/bits.deBruijn32tab", "math/bits.deBruijn64tab", "math/bits.divideError", "math/bits.overflowError"], apart := false, laid := [("math/bits.deBruijn32tab", laid_math_bits_deBruijn32tab), ("math/bits.deBruijn64tab", laid_math_bits_deBruijn64tab), ("internal/strconv.uint64pow10", laid_internal_strconv_uint64pow10)] }
def LinesBasisSaid : Prop := linesBasisRow.holds Tryz.pinned (OpenSpec.ofChange linesBasisSpec)

/-- ITS FALSE NEIGHBOUR: 'it returns false'. Refute it at one input. -/
def linesBasisWrong : ChangeSpec := { name := "linesBasis", fn := fun _ => fun
  | [d1, d2] => { results := [.lit (.bool false)], args := [d1, d2] }
  | _ => none }
def LinesBasisWrongFalsely : Prop := linesBasisRow.holds Tryz.pinned (OpenSpec.ofChange linesBasisWrong)

/-- 'talismanlaw02.LinesDependent': WHATEVER THE INPUT: true; the input reads as it did. -/
def linesDependentSpec : ChangeSpec := { name := "linesDependent", fn := fun _ => fun
  | [d] => { results := [.lit (.bool true)], args := [d] }
  | _ => none }
def linesDependentRow : OpenClaim := { program := "ytfgpjkchdelphaagreatdoor", sum := "4baa00b3e3db6d9a303a8cf8027592b5ae6bd75175339606ee20a2e2a66f7a6f", func := "talisman/talismanlaw02.LinesDependent", spec := "linesDependent", inPlace := ["internal/abi.NoEscape", "internal/bytealg.MakeNoZero", "math/bits.Add64", "math/bits.Sub64"], unfollowed := true, recurses := true, named := ["internal/strconv.uint64pow10", "math/bits.deBruijn32tab", "math/bits.deBruijn64tab", "math/bits.divideError", "math/bits.overflowError"], apart := false, laid := [("math/bits.deBruijn32tab", laid_math_bits_deBruijn32tab), ("math/bits.deBruijn64tab", laid_math_bits_deBruijn64tab), ("internal/strconv.uint64pow10", laid_internal_strconv_uint64pow10)] }
def LinesDependentSaid : Prop := linesDependentRow.holds Tryz.pinned (OpenSpec.ofChange linesDependentSpec)

/-- ITS FALSE NEIGHBOUR: 'it returns false'. Refute it at one input. -/
def linesDependentWrong : ChangeSpec := { name := "linesDependent", fn := fun _ => fun
  | [d] => { results := [.lit (.bool false)], args := [d] }
  | _ => none }
def LinesDependentWrongFalsely : Prop := linesDependentRow.holds Tryz.pinned (OpenSpec.ofChange linesDependentWrong)

/-- 'talismanlaw02.LinesConstant': WHATEVER THE INPUT: true; the input reads as it did. -/
def linesConstantSpec : ChangeSpec := { name := "linesConstant", fn := fun _ => fun
  | [d] => { results := [.lit (.bool true)], args := [d] }
  | _ => none }
def linesConstantRow : OpenClaim := { program := "ytfgpjkchdelphaagreatdoor", sum := "4baa00b3e3db6d9a303a8cf8027592b5ae6bd75175339606ee20a2e2a66f7a6f", func := "talisman/talismanlaw02.LinesConstant", spec := "linesConstant", inPlace := ["internal/abi.NoEscape", "internal/bytealg.MakeNoZero", "math/bits.Add64", "math/bits.Sub64"], unfollowed := true, recurses := true, named := ["internal/strconv.uint64pow10", "math/bits.deBruijn32tab", "math/bits.deBruijn64tab", "math/bits.divideError", "math/bits.overflowError"], apart := false, laid := [("math/bits.deBruijn32tab", laid_math_bits_deBruijn32tab), ("math/bits.deBruijn64tab", laid_math_bits_deBruijn64tab), ("internal/strconv.uint64pow10", laid_internal_strconv_uint64pow10)] }
def LinesConstantSaid : Prop := linesConstantRow.holds Tryz.pinned (OpenSpec.ofChange linesConstantSpec)

/-- ITS FALSE NEIGHBOUR: 'it returns false'. Refute it at one input. -/
def linesConstantWrong : ChangeSpec := { name := "linesConstant", fn := fun _ => fun
  | [d] => { results := [.lit (.bool false)], args := [d] }
  | _ => none }
def LinesConstantWrongFalsely : Prop := linesConstantRow.holds Tryz.pinned (OpenSpec.ofChange linesConstantWrong)

/-- 'talismanlaw02.LinesSpan': WHATEVER THE INPUT: true; the input reads as it did. -/
def linesSpanSpec : ChangeSpec := { name := "linesSpan", fn := fun _ => fun
  | [d1, d2, d3] => { results := [.lit (.bool true)], args := [d1, d2, d3] }
  | _ => none }
def linesSpanRow : OpenClaim := { program := "ytfgpjkchdelphaagreatdoor", sum := "4baa00b3e3db6d9a303a8cf8027592b5ae6bd75175339606ee20a2e2a66f7a6f", func := "talisman/talismanlaw02.LinesSpan", spec := "linesSpan", inPlace := ["internal/abi.NoEscape", "internal/bytealg.MakeNoZero", "math/bits.Add64", "math/bits.Sub64"], unfollowed := true, recurses := true, named := ["internal/strconv.uint64pow10", "math/bits.deBruijn32tab", "math/bits.deBruijn64tab", "math/bits.divideError", "math/bits.overflowError"], apart := false, laid := [("math/bits.deBruijn32tab", laid_math_bits_deBruijn32tab), ("math/bits.deBruijn64tab", laid_math_bits_deBruijn64tab), ("internal/strconv.uint64pow10", laid_internal_strconv_uint64pow10)] }
def LinesSpanSaid : Prop := linesSpanRow.holds Tryz.pinned (OpenSpec.ofChange linesSpanSpec)

/-- ITS FALSE NEIGHBOUR: 'it returns false'. Refute it at one input. -/
def linesSpanWrong : ChangeSpec := { name := "linesSpan", fn := fun _ => fun
  | [d1, d2, d3] => { results := [.lit (.bool false)], args := [d1, d2, d3] }
  | _ => none }
def LinesSpanWrongFalsely : Prop := linesSpanRow.holds Tryz.pinned (OpenSpec.ofChange linesSpanWrong)

/-- 'talismanlaw02.LinesDimension': WHATEVER THE INPUT: true; the input reads as it did. -/
def linesDimensionSpec : ChangeSpec := { name := "linesDimension", fn := fun _ => fun
  | [d] => { results := [.lit (.bool true)], args := [d] }
  | _ => none }
def linesDimensionRow : OpenClaim := { program := "ytfgpjkchdelphaagreatdoor", sum := "4baa00b3e3db6d9a303a8cf8027592b5ae6bd75175339606ee20a2e2a66f7a6f", func := "talisman/talismanlaw02.LinesDimension", spec := "linesDimension", inPlace := ["internal/abi.NoEscape", "internal/bytealg.MakeNoZero", "math/bits.Add64", "math/bits.Sub64"], unfollowed := true, recurses := true, named := ["internal/strconv.uint64pow10", "math/bits.deBruijn32tab", "math/bits.deBruijn64tab", "math/bits.divideError", "math/bits.overflowError"], apart := false, laid := [("math/bits.deBruijn32tab", laid_math_bits_deBruijn32tab), ("math/bits.deBruijn64tab", laid_math_bits_deBruijn64tab), ("internal/strconv.uint64pow10", laid_internal_strconv_uint64pow10)] }
def LinesDimensionSaid : Prop := linesDimensionRow.holds Tryz.pinned (OpenSpec.ofChange linesDimensionSpec)

/-- ITS FALSE NEIGHBOUR: 'it returns false'. Refute it at one input. -/
def linesDimensionWrong : ChangeSpec := { name := "linesDimension", fn := fun _ => fun
  | [d] => { results := [.lit (.bool false)], args := [d] }
  | _ => none }
def LinesDimensionWrongFalsely : Prop := linesDimensionRow.holds Tryz.pinned (OpenSpec.ofChange linesDimensionWrong)

/-- 'talismanlaw02.LinesComplements': WHATEVER THE INPUT: true; the input reads as it did. -/
def linesComplementsSpec : ChangeSpec := { name := "linesComplements", fn := fun _ => fun
  | [d1, d2] => { results := [.lit (.bool true)], args := [d1, d2] }
  | _ => none }
def linesComplementsRow : OpenClaim := { program := "ytfgpjkchdelphaagreatdoor", sum := "4baa00b3e3db6d9a303a8cf8027592b5ae6bd75175339606ee20a2e2a66f7a6f", func := "talisman/talismanlaw02.LinesComplements", spec := "linesComplements", inPlace := ["internal/abi.NoEscape", "internal/bytealg.MakeNoZero", "math/bits.Add64", "math/bits.Sub64"], unfollowed := true, recurses := true, named := ["internal/strconv.uint64pow10", "math/bits.deBruijn32tab", "math/bits.deBruijn64tab", "math/bits.divideError", "math/bits.overflowError"], apart := false, laid := [("math/bits.deBruijn32tab", laid_math_bits_deBruijn32tab), ("math/bits.deBruijn64tab", laid_math_bits_deBruijn64tab), ("internal/strconv.uint64pow10", laid_internal_strconv_uint64pow10)] }
def LinesComplementsSaid : Prop := linesComplementsRow.holds Tryz.pinned (OpenSpec.ofChange linesComplementsSpec)

/-- ITS FALSE NEIGHBOUR: 'it returns false'. Refute it at one input. -/
def linesComplementsWrong : ChangeSpec := { name := "linesComplements", fn := fun _ => fun
  | [d1, d2] => { results := [.lit (.bool false)], args := [d1, d2] }
  | _ => none }
def LinesComplementsWrongFalsely : Prop := linesComplementsRow.holds Tryz.pinned (OpenSpec.ofChange linesComplementsWrong)

/-- 'talismanlaw02.LinesTurned': WHATEVER THE INPUT: true; the input reads as it did. -/
def linesTurnedSpec : ChangeSpec := { name := "linesTurned", fn := fun _ => fun
  | [d1, d2] => { results := [.lit (.bool true)], args := [d1, d2] }
  | _ => none }
def linesTurnedRow : OpenClaim := { program := "ytfgpjkchdelphaagreatdoor", sum := "4baa00b3e3db6d9a303a8cf8027592b5ae6bd75175339606ee20a2e2a66f7a6f", func := "talisman/talismanlaw02.LinesTurned", spec := "linesTurned", inPlace := ["internal/abi.NoEscape", "internal/bytealg.MakeNoZero", "math/bits.Add64", "math/bits.Sub64"], unfollowed := true, recurses := true, named := ["internal/strconv.uint64pow10", "math/bits.deBruijn32tab", "math/bits.deBruijn64tab", "math/bits.divideError", "math/bits.overflowError"], apart := false, laid := [("math/bits.deBruijn32tab", laid_math_bits_deBruijn32tab), ("math/bits.deBruijn64tab", laid_math_bits_deBruijn64tab), ("internal/strconv.uint64pow10", laid_internal_strconv_uint64pow10)] }
def LinesTurnedSaid : Prop := linesTurnedRow.holds Tryz.pinned (OpenSpec.ofChange linesTurnedSpec)

/-- ITS FALSE NEIGHBOUR: 'it returns false'. Refute it at one input. -/
def linesTurnedWrong : ChangeSpec := { name := "linesTurned", fn := fun _ => fun
  | [d1, d2] => { results := [.lit (.bool false)], args := [d1, d2] }
  | _ => none }
def LinesTurnedWrongFalsely : Prop := linesTurnedRow.holds Tryz.pinned (OpenSpec.ofChange linesTurnedWrong)

/-- 'talismanlaw02.LinesNormal': WHATEVER THE INPUT: true; the input reads as it did. -/
def linesNormalSpec : ChangeSpec := { name := "linesNormal", fn := fun _ => fun
  | [d] => { results := [.lit (.bool true)], args := [d] }
  | _ => none }
def linesNormalRow : OpenClaim := { program := "ytfgpjkchdelphaagreatdoor", sum := "4baa00b3e3db6d9a303a8cf8027592b5ae6bd75175339606ee20a2e2a66f7a6f", func := "talisman/talismanlaw02.LinesNormal", spec := "linesNormal", inPlace := ["internal/abi.NoEscape", "internal/bytealg.MakeNoZero", "math/bits.Add64", "math/bits.Sub64"], unfollowed := true, recurses := true, named := ["internal/strconv.uint64pow10", "math/bits.deBruijn32tab", "math/bits.deBruijn64tab", "math/bits.divideError", "math/bits.overflowError"], apart := false, laid := [("math/bits.deBruijn32tab", laid_math_bits_deBruijn32tab), ("math/bits.deBruijn64tab", laid_math_bits_deBruijn64tab), ("internal/strconv.uint64pow10", laid_internal_strconv_uint64pow10)] }
def LinesNormalSaid : Prop := linesNormalRow.holds Tryz.pinned (OpenSpec.ofChange linesNormalSpec)

/-- ITS FALSE NEIGHBOUR: 'it returns false'. Refute it at one input. -/
def linesNormalWrong : ChangeSpec := { name := "linesNormal", fn := fun _ => fun
  | [d] => { results := [.lit (.bool false)], args := [d] }
  | _ => none }
def LinesNormalWrongFalsely : Prop := linesNormalRow.holds Tryz.pinned (OpenSpec.ofChange linesNormalWrong)

/-- 'talismanlaw02.LinesSums': WHATEVER THE INPUT: true; the input reads as it did. -/
def linesSumsSpec : ChangeSpec := { name := "linesSums", fn := fun _ => fun
  | [d1, d2] => { results := [.lit (.bool true)], args := [d1, d2] }
  | _ => none }
def linesSumsRow : OpenClaim := { program := "ytfgpjkchdelphaagreatdoor", sum := "4baa00b3e3db6d9a303a8cf8027592b5ae6bd75175339606ee20a2e2a66f7a6f", func := "talisman/talismanlaw02.LinesSums", spec := "linesSums", inPlace := ["internal/abi.NoEscape", "internal/bytealg.MakeNoZero", "math/bits.Add64", "math/bits.Sub64"], unfollowed := true, recurses := true, named := ["internal/strconv.uint64pow10", "math/bits.deBruijn32tab", "math/bits.deBruijn64tab", "math/bits.divideError", "math/bits.overflowError"], apart := false, laid := [("math/bits.deBruijn32tab", laid_math_bits_deBruijn32tab), ("math/bits.deBruijn64tab", laid_math_bits_deBruijn64tab), ("internal/strconv.uint64pow10", laid_internal_strconv_uint64pow10)] }
def LinesSumsSaid : Prop := linesSumsRow.holds Tryz.pinned (OpenSpec.ofChange linesSumsSpec)

/-- ITS FALSE NEIGHBOUR: 'it returns false'. Refute it at one input. -/
def linesSumsWrong : ChangeSpec := { name := "linesSums", fn := fun _ => fun
  | [d1, d2] => { results := [.lit (.bool false)], args := [d1, d2] }
  | _ => none }
def LinesSumsWrongFalsely : Prop := linesSumsRow.holds Tryz.pinned (OpenSpec.ofChange linesSumsWrong)

/-- 'talismanlaw02.LinesKinds': WHATEVER THE INPUT: true; the input reads as it did. -/
def linesKindsSpec : ChangeSpec := { name := "linesKinds", fn := fun _ => fun
  | [d] => { results := [.lit (.bool true)], args := [d] }
  | _ => none }
def linesKindsRow : OpenClaim := { program := "ytfgpjkchdelphaagreatdoor", sum := "4baa00b3e3db6d9a303a8cf8027592b5ae6bd75175339606ee20a2e2a66f7a6f", func := "talisman/talismanlaw02.LinesKinds", spec := "linesKinds", inPlace := ["internal/abi.NoEscape", "internal/bytealg.MakeNoZero", "math/bits.Add64", "math/bits.Sub64"], unfollowed := true, recurses := true, named := ["internal/strconv.uint64pow10", "math/bits.deBruijn32tab", "math/bits.deBruijn64tab", "math/bits.divideError", "math/bits.overflowError"], apart := false, laid := [("math/bits.deBruijn32tab", laid_math_bits_deBruijn32tab), ("math/bits.deBruijn64tab", laid_math_bits_deBruijn64tab), ("internal/strconv.uint64pow10", laid_internal_strconv_uint64pow10)] }
def LinesKindsSaid : Prop := linesKindsRow.holds Tryz.pinned (OpenSpec.ofChange linesKindsSpec)

/-- ITS FALSE NEIGHBOUR: 'it returns false'. Refute it at one input. -/
def linesKindsWrong : ChangeSpec := { name := "linesKinds", fn := fun _ => fun
  | [d] => { results := [.lit (.bool false)], args := [d] }
  | _ => none }
def LinesKindsWrongFalsely : Prop := linesKindsRow.holds Tryz.pinned (OpenSpec.ofChange linesKindsWrong)

/-- 'talismanlaw02.LinesSystems': WHATEVER THE INPUT: true; the input reads as it did. -/
def linesSystemsSpec : ChangeSpec := { name := "linesSystems", fn := fun _ => fun
  | [d1, d2, d3] => { results := [.lit (.bool true)], args := [d1, d2, d3] }
  | _ => none }
def linesSystemsRow : OpenClaim := { program := "ytfgpjkchdelphaagreatdoor", sum := "4baa00b3e3db6d9a303a8cf8027592b5ae6bd75175339606ee20a2e2a66f7a6f", func := "talisman/talismanlaw02.LinesSystems", spec := "linesSystems", inPlace := ["internal/abi.NoEscape", "internal/bytealg.MakeNoZero", "math/bits.Add64", "math/bits.Sub64"], unfollowed := true, recurses := true, named := ["internal/strconv.uint64pow10", "math/bits.deBruijn32tab", "math/bits.deBruijn64tab", "math/bits.divideError", "math/bits.overflowError"], apart := false, laid := [("math/bits.deBruijn32tab", laid_math_bits_deBruijn32tab), ("math/bits.deBruijn64tab", laid_math_bits_deBruijn64tab), ("internal/strconv.uint64pow10", laid_internal_strconv_uint64pow10)] }
def LinesSystemsSaid : Prop := linesSystemsRow.holds Tryz.pinned (OpenSpec.ofChange linesSystemsSpec)

/-- ITS FALSE NEIGHBOUR: 'it returns false'. Refute it at one input. -/
def linesSystemsWrong : ChangeSpec := { name := "linesSystems", fn := fun _ => fun
  | [d1, d2, d3] => { results := [.lit (.bool false)], args := [d1, d2, d3] }
  | _ => none }
def LinesSystemsWrongFalsely : Prop := linesSystemsRow.holds Tryz.pinned (OpenSpec.ofChange linesSystemsWrong)

/-- 'talismanlaw02.LinesGraphs': WHATEVER THE INPUT: true; the input reads as it did. -/
def linesGraphsSpec : ChangeSpec := { name := "linesGraphs", fn := fun _ => fun
  | [d1, d2] => { results := [.lit (.bool true)], args := [d1, d2] }
  | _ => none }
def linesGraphsRow : OpenClaim := { program := "ytfgpjkchdelphaagreatdoor", sum := "4baa00b3e3db6d9a303a8cf8027592b5ae6bd75175339606ee20a2e2a66f7a6f", func := "talisman/talismanlaw02.LinesGraphs", spec := "linesGraphs", inPlace := ["internal/abi.NoEscape", "internal/bytealg.MakeNoZero", "math/bits.Add64", "math/bits.Sub64"], unfollowed := true, recurses := true, named := ["internal/strconv.uint64pow10", "math/bits.deBruijn32tab", "math/bits.deBruijn64tab", "math/bits.divideError", "math/bits.overflowError"], apart := false, laid := [("math/bits.deBruijn32tab", laid_math_bits_deBruijn32tab), ("math/bits.deBruijn64tab", laid_math_bits_deBruijn64tab), ("internal/strconv.uint64pow10", laid_internal_strconv_uint64pow10)] }
def LinesGraphsSaid : Prop := linesGraphsRow.holds Tryz.pinned (OpenSpec.ofChange linesGraphsSpec)

/-- ITS FALSE NEIGHBOUR: 'it returns false'. Refute it at one input. -/
def linesGraphsWrong : ChangeSpec := { name := "linesGraphs", fn := fun _ => fun
  | [d1, d2] => { results := [.lit (.bool false)], args := [d1, d2] }
  | _ => none }
def LinesGraphsWrongFalsely : Prop := linesGraphsRow.holds Tryz.pinned (OpenSpec.ofChange linesGraphsWrong)

/- THE SECOND FORM. 'bulk': how many values and letters a reading holds, each counted each time it is reached (what is shared counts as often as it is met; a slice's spare places count too). A statement '..UptoSaid' is the law's where the arguments, and the package variables that the reading takes, are together of bulk at most 1048576: NARROWER than '..Said'. Prove '..Said' where nothing that the law and all that it calls make is longer than what came in: it says more and counts as full. Else prove '..UptoSaid'. A law counts once. -/
mutual
def uptoBulk {H : Type} : DataW H → Nat
  | .lit (.string bytes) => bytes.length + 1
  | .lit _ => 1
  | .nil => 1
  | .ptr d => uptoBulk d + 1
  | .slice elems spare => uptoBulkAll elems + uptoBulkAll spare + 1
  | .agg parts => uptoBulkAll parts + 1
  | .iface _ d => uptoBulk d + 1
  | .map entries => uptoBulkEntries entries + 1
  | .held _ => 1
def uptoBulkAll {H : Type} : List (DataW H) → Nat
  | [] => 0
  | d :: r => uptoBulk d + uptoBulkAll r
def uptoBulkEntries {H : Type} : List (Lit × DataW H) → Nat
  | [] => 0
  | x :: r => uptoBulkEntry x + uptoBulkEntries r
def uptoBulkEntry {H : Type} : Lit × DataW H → Nat
  | (.string bytes, d) => bytes.length + uptoBulk d + 1
  | (_, d) => uptoBulk d + 1
 end
def uptoSmall : (H : Type) → List (DataW H) → Bool := fun _ ds => decide (uptoBulkAll ds ≤ 1048576)
def OpenSpec.upto (s : _root_.Go.ChangeSpec) : _root_.Go.OpenSpec := { _root_.Go.OpenSpec.ofChange s with cond := some uptoSmall }

/-- 'talismanlaw02.LinesChecks', WHERE WHAT IT READS IS OF BULK AT MOST 1048576: true; the input reads as it did. -/
def linesChecksUptoRow : OpenClaim := { program := "ytfgpjkchdelphaagreatdoor", sum := "4baa00b3e3db6d9a303a8cf8027592b5ae6bd75175339606ee20a2e2a66f7a6f", func := "talisman/talismanlaw02.LinesChecks", spec := "linesChecks", inPlace := ["internal/abi.NoEscape", "internal/bytealg.MakeNoZero", "math/bits.Add64", "math/bits.Sub64"], unfollowed := true, recurses := true, named := ["internal/strconv.uint64pow10", "math/bits.deBruijn32tab", "math/bits.deBruijn64tab", "math/bits.divideError", "math/bits.overflowError"], apart := false, laid := [("math/bits.deBruijn32tab", laid_math_bits_deBruijn32tab), ("math/bits.deBruijn64tab", laid_math_bits_deBruijn64tab), ("internal/strconv.uint64pow10", laid_internal_strconv_uint64pow10)], narrowed := true }
def LinesChecksUptoSaid : Prop := linesChecksUptoRow.holds Tryz.pinned (OpenSpec.upto linesChecksSpec)

/-- 'talismanlaw02.LinesBasis', WHERE WHAT IT READS IS OF BULK AT MOST 1048576: true; the input reads as it did. -/
def linesBasisUptoRow : OpenClaim := { program := "ytfgpjkchdelphaagreatdoor", sum := "4baa00b3e3db6d9a303a8cf8027592b5ae6bd75175339606ee20a2e2a66f7a6f", func := "talisman/talismanlaw02.LinesBasis", spec := "linesBasis", inPlace := ["internal/abi.NoEscape", "internal/bytealg.MakeNoZero", "math/bits.Add64", "math/bits.Sub64"], unfollowed := true, recurses := true, named := ["internal/strconv.uint64pow10", "math/bits.deBruijn32tab", "math/bits.deBruijn64tab", "math/bits.divideError", "math/bits.overflowError"], apart := false, laid := [("math/bits.deBruijn32tab", laid_math_bits_deBruijn32tab), ("math/bits.deBruijn64tab", laid_math_bits_deBruijn64tab), ("internal/strconv.uint64pow10", laid_internal_strconv_uint64pow10)], narrowed := true }
def LinesBasisUptoSaid : Prop := linesBasisUptoRow.holds Tryz.pinned (OpenSpec.upto linesBasisSpec)

/-- 'talismanlaw02.LinesDependent', WHERE WHAT IT READS IS OF BULK AT MOST 1048576: true; the input reads as it did. -/
def linesDependentUptoRow : OpenClaim := { program := "ytfgpjkchdelphaagreatdoor", sum := "4baa00b3e3db6d9a303a8cf8027592b5ae6bd75175339606ee20a2e2a66f7a6f", func := "talisman/talismanlaw02.LinesDependent", spec := "linesDependent", inPlace := ["internal/abi.NoEscape", "internal/bytealg.MakeNoZero", "math/bits.Add64", "math/bits.Sub64"], unfollowed := true, recurses := true, named := ["internal/strconv.uint64pow10", "math/bits.deBruijn32tab", "math/bits.deBruijn64tab", "math/bits.divideError", "math/bits.overflowError"], apart := false, laid := [("math/bits.deBruijn32tab", laid_math_bits_deBruijn32tab), ("math/bits.deBruijn64tab", laid_math_bits_deBruijn64tab), ("internal/strconv.uint64pow10", laid_internal_strconv_uint64pow10)], narrowed := true }
def LinesDependentUptoSaid : Prop := linesDependentUptoRow.holds Tryz.pinned (OpenSpec.upto linesDependentSpec)

/-- 'talismanlaw02.LinesConstant', WHERE WHAT IT READS IS OF BULK AT MOST 1048576: true; the input reads as it did. -/
def linesConstantUptoRow : OpenClaim := { program := "ytfgpjkchdelphaagreatdoor", sum := "4baa00b3e3db6d9a303a8cf8027592b5ae6bd75175339606ee20a2e2a66f7a6f", func := "talisman/talismanlaw02.LinesConstant", spec := "linesConstant", inPlace := ["internal/abi.NoEscape", "internal/bytealg.MakeNoZero", "math/bits.Add64", "math/bits.Sub64"], unfollowed := true, recurses := true, named := ["internal/strconv.uint64pow10", "math/bits.deBruijn32tab", "math/bits.deBruijn64tab", "math/bits.divideError", "math/bits.overflowError"], apart := false, laid := [("math/bits.deBruijn32tab", laid_math_bits_deBruijn32tab), ("math/bits.deBruijn64tab", laid_math_bits_deBruijn64tab), ("internal/strconv.uint64pow10", laid_internal_strconv_uint64pow10)], narrowed := true }
def LinesConstantUptoSaid : Prop := linesConstantUptoRow.holds Tryz.pinned (OpenSpec.upto linesConstantSpec)

/-- 'talismanlaw02.LinesSpan', WHERE WHAT IT READS IS OF BULK AT MOST 1048576: true; the input reads as it did. -/
def linesSpanUptoRow : OpenClaim := { program := "ytfgpjkchdelphaagreatdoor", sum := "4baa00b3e3db6d9a303a8cf8027592b5ae6bd75175339606ee20a2e2a66f7a6f", func := "talisman/talismanlaw02.LinesSpan", spec := "linesSpan", inPlace := ["internal/abi.NoEscape", "internal/bytealg.MakeNoZero", "math/bits.Add64", "math/bits.Sub64"], unfollowed := true, recurses := true, named := ["internal/strconv.uint64pow10", "math/bits.deBruijn32tab", "math/bits.deBruijn64tab", "math/bits.divideError", "math/bits.overflowError"], apart := false, laid := [("math/bits.deBruijn32tab", laid_math_bits_deBruijn32tab), ("math/bits.deBruijn64tab", laid_math_bits_deBruijn64tab), ("internal/strconv.uint64pow10", laid_internal_strconv_uint64pow10)], narrowed := true }
def LinesSpanUptoSaid : Prop := linesSpanUptoRow.holds Tryz.pinned (OpenSpec.upto linesSpanSpec)

/-- 'talismanlaw02.LinesDimension', WHERE WHAT IT READS IS OF BULK AT MOST 1048576: true; the input reads as it did. -/
def linesDimensionUptoRow : OpenClaim := { program := "ytfgpjkchdelphaagreatdoor", sum := "4baa00b3e3db6d9a303a8cf8027592b5ae6bd75175339606ee20a2e2a66f7a6f", func := "talisman/talismanlaw02.LinesDimension", spec := "linesDimension", inPlace := ["internal/abi.NoEscape", "internal/bytealg.MakeNoZero", "math/bits.Add64", "math/bits.Sub64"], unfollowed := true, recurses := true, named := ["internal/strconv.uint64pow10", "math/bits.deBruijn32tab", "math/bits.deBruijn64tab", "math/bits.divideError", "math/bits.overflowError"], apart := false, laid := [("math/bits.deBruijn32tab", laid_math_bits_deBruijn32tab), ("math/bits.deBruijn64tab", laid_math_bits_deBruijn64tab), ("internal/strconv.uint64pow10", laid_internal_strconv_uint64pow10)], narrowed := true }
def LinesDimensionUptoSaid : Prop := linesDimensionUptoRow.holds Tryz.pinned (OpenSpec.upto linesDimensionSpec)

/-- 'talismanlaw02.LinesComplements', WHERE WHAT IT READS IS OF BULK AT MOST 1048576: true; the input reads as it did. -/
def linesComplementsUptoRow : OpenClaim := { program := "ytfgpjkchdelphaagreatdoor", sum := "4baa00b3e3db6d9a303a8cf8027592b5ae6bd75175339606ee20a2e2a66f7a6f", func := "talisman/talismanlaw02.LinesComplements", spec := "linesComplements", inPlace := ["internal/abi.NoEscape", "internal/bytealg.MakeNoZero", "math/bits.Add64", "math/bits.Sub64"], unfollowed := true, recurses := true, named := ["internal/strconv.uint64pow10", "math/bits.deBruijn32tab", "math/bits.deBruijn64tab", "math/bits.divideError", "math/bits.overflowError"], apart := false, laid := [("math/bits.deBruijn32tab", laid_math_bits_deBruijn32tab), ("math/bits.deBruijn64tab", laid_math_bits_deBruijn64tab), ("internal/strconv.uint64pow10", laid_internal_strconv_uint64pow10)], narrowed := true }
def LinesComplementsUptoSaid : Prop := linesComplementsUptoRow.holds Tryz.pinned (OpenSpec.upto linesComplementsSpec)

/-- 'talismanlaw02.LinesTurned', WHERE WHAT IT READS IS OF BULK AT MOST 1048576: true; the input reads as it did. -/
def linesTurnedUptoRow : OpenClaim := { program := "ytfgpjkchdelphaagreatdoor", sum := "4baa00b3e3db6d9a303a8cf8027592b5ae6bd75175339606ee20a2e2a66f7a6f", func := "talisman/talismanlaw02.LinesTurned", spec := "linesTurned", inPlace := ["internal/abi.NoEscape", "internal/bytealg.MakeNoZero", "math/bits.Add64", "math/bits.Sub64"], unfollowed := true, recurses := true, named := ["internal/strconv.uint64pow10", "math/bits.deBruijn32tab", "math/bits.deBruijn64tab", "math/bits.divideError", "math/bits.overflowError"], apart := false, laid := [("math/bits.deBruijn32tab", laid_math_bits_deBruijn32tab), ("math/bits.deBruijn64tab", laid_math_bits_deBruijn64tab), ("internal/strconv.uint64pow10", laid_internal_strconv_uint64pow10)], narrowed := true }
def LinesTurnedUptoSaid : Prop := linesTurnedUptoRow.holds Tryz.pinned (OpenSpec.upto linesTurnedSpec)

/-- 'talismanlaw02.LinesNormal', WHERE WHAT IT READS IS OF BULK AT MOST 1048576: true; the input reads as it did. -/
def linesNormalUptoRow : OpenClaim := { program := "ytfgpjkchdelphaagreatdoor", sum := "4baa00b3e3db6d9a303a8cf8027592b5ae6bd75175339606ee20a2e2a66f7a6f", func := "talisman/talismanlaw02.LinesNormal", spec := "linesNormal", inPlace := ["internal/abi.NoEscape", "internal/bytealg.MakeNoZero", "math/bits.Add64", "math/bits.Sub64"], unfollowed := true, recurses := true, named := ["internal/strconv.uint64pow10", "math/bits.deBruijn32tab", "math/bits.deBruijn64tab", "math/bits.divideError", "math/bits.overflowError"], apart := false, laid := [("math/bits.deBruijn32tab", laid_math_bits_deBruijn32tab), ("math/bits.deBruijn64tab", laid_math_bits_deBruijn64tab), ("internal/strconv.uint64pow10", laid_internal_strconv_uint64pow10)], narrowed := true }
def LinesNormalUptoSaid : Prop := linesNormalUptoRow.holds Tryz.pinned (OpenSpec.upto linesNormalSpec)

/-- 'talismanlaw02.LinesSums', WHERE WHAT IT READS IS OF BULK AT MOST 1048576: true; the input reads as it did. -/
def linesSumsUptoRow : OpenClaim := { program := "ytfgpjkchdelphaagreatdoor", sum := "4baa00b3e3db6d9a303a8cf8027592b5ae6bd75175339606ee20a2e2a66f7a6f", func := "talisman/talismanlaw02.LinesSums", spec := "linesSums", inPlace := ["internal/abi.NoEscape", "internal/bytealg.MakeNoZero", "math/bits.Add64", "math/bits.Sub64"], unfollowed := true, recurses := true, named := ["internal/strconv.uint64pow10", "math/bits.deBruijn32tab", "math/bits.deBruijn64tab", "math/bits.divideError", "math/bits.overflowError"], apart := false, laid := [("math/bits.deBruijn32tab", laid_math_bits_deBruijn32tab), ("math/bits.deBruijn64tab", laid_math_bits_deBruijn64tab), ("internal/strconv.uint64pow10", laid_internal_strconv_uint64pow10)], narrowed := true }
def LinesSumsUptoSaid : Prop := linesSumsUptoRow.holds Tryz.pinned (OpenSpec.upto linesSumsSpec)

/-- 'talismanlaw02.LinesKinds', WHERE WHAT IT READS IS OF BULK AT MOST 1048576: true; the input reads as it did. -/
def linesKindsUptoRow : OpenClaim := { program := "ytfgpjkchdelphaagreatdoor", sum := "4baa00b3e3db6d9a303a8cf8027592b5ae6bd75175339606ee20a2e2a66f7a6f", func := "talisman/talismanlaw02.LinesKinds", spec := "linesKinds", inPlace := ["internal/abi.NoEscape", "internal/bytealg.MakeNoZero", "math/bits.Add64", "math/bits.Sub64"], unfollowed := true, recurses := true, named := ["internal/strconv.uint64pow10", "math/bits.deBruijn32tab", "math/bits.deBruijn64tab", "math/bits.divideError", "math/bits.overflowError"], apart := false, laid := [("math/bits.deBruijn32tab", laid_math_bits_deBruijn32tab), ("math/bits.deBruijn64tab", laid_math_bits_deBruijn64tab), ("internal/strconv.uint64pow10", laid_internal_strconv_uint64pow10)], narrowed := true }
def LinesKindsUptoSaid : Prop := linesKindsUptoRow.holds Tryz.pinned (OpenSpec.upto linesKindsSpec)

/-- 'talismanlaw02.LinesSystems', WHERE WHAT IT READS IS OF BULK AT MOST 1048576: true; the input reads as it did. -/
def linesSystemsUptoRow : OpenClaim := { program := "ytfgpjkchdelphaagreatdoor", sum := "4baa00b3e3db6d9a303a8cf8027592b5ae6bd75175339606ee20a2e2a66f7a6f", func := "talisman/talismanlaw02.LinesSystems", spec := "linesSystems", inPlace := ["internal/abi.NoEscape", "internal/bytealg.MakeNoZero", "math/bits.Add64", "math/bits.Sub64"], unfollowed := true, recurses := true, named := ["internal/strconv.uint64pow10", "math/bits.deBruijn32tab", "math/bits.deBruijn64tab", "math/bits.divideError", "math/bits.overflowError"], apart := false, laid := [("math/bits.deBruijn32tab", laid_math_bits_deBruijn32tab), ("math/bits.deBruijn64tab", laid_math_bits_deBruijn64tab), ("internal/strconv.uint64pow10", laid_internal_strconv_uint64pow10)], narrowed := true }
def LinesSystemsUptoSaid : Prop := linesSystemsUptoRow.holds Tryz.pinned (OpenSpec.upto linesSystemsSpec)

/-- 'talismanlaw02.LinesGraphs', WHERE WHAT IT READS IS OF BULK AT MOST 1048576: true; the input reads as it did. -/
def linesGraphsUptoRow : OpenClaim := { program := "ytfgpjkchdelphaagreatdoor", sum := "4baa00b3e3db6d9a303a8cf8027592b5ae6bd75175339606ee20a2e2a66f7a6f", func := "talisman/talismanlaw02.LinesGraphs", spec := "linesGraphs", inPlace := ["internal/abi.NoEscape", "internal/bytealg.MakeNoZero", "math/bits.Add64", "math/bits.Sub64"], unfollowed := true, recurses := true, named := ["internal/strconv.uint64pow10", "math/bits.deBruijn32tab", "math/bits.deBruijn64tab", "math/bits.divideError", "math/bits.overflowError"], apart := false, laid := [("math/bits.deBruijn32tab", laid_math_bits_deBruijn32tab), ("math/bits.deBruijn64tab", laid_math_bits_deBruijn64tab), ("internal/strconv.uint64pow10", laid_internal_strconv_uint64pow10)], narrowed := true }
def LinesGraphsUptoSaid : Prop := linesGraphsUptoRow.holds Tryz.pinned (OpenSpec.upto linesGraphsSpec)

end Rows
end Go.Proofs.YtfgpjkchdelphaaGreatDoor
