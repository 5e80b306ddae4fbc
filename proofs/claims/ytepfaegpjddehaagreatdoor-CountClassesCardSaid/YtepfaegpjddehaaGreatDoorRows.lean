/-
  NARROWER THAN 'FOR EVERY INPUT', by the rows' own cells (each row's printed sentence says how): CountSets: laid · CountBounds: laid · CountBounded: laid · CountHalves: laid · CountKeys: laid · CountAntimagic: laid · CountMeets: laid · CountKeyed: laid · CountFillings: laid · CountClasses: laid · CountComplements: laid · CountBurnside: laid · CountTotals: laid · CountConstants: laid · CountAgrees: laid.
  DERIVED. THE GIVEN ROWS OF THIS SEAT. 15 by the template 'for every input the law returns true; each argument reads behind the call as it read before'; 0 by the template 'total and deterministic' (their statements: YtepfaegpjddehaaGreatDoorTotals.lean).
  GIVEN WITH THE SEED: the statements are not yours to turn. If you find one false, say at which input.
  Laid BY PROGRAM, IN A SANDBOX (cutbox-rows.mjs): the forced cells as the released guide's own fill.sh prints them over the translation 100951373966d376… (all of the seat's roots in one cut). By AI agents, Wed Nov 11 2026. No macro, syntax, notation, axiom, sorry.
-/
import Derived.Test.YtepfaegpjddehaaGreatDoorChecked
import GoSem.Claim
import GoSem.ClaimJoined
import GoSem.ClaimMapViews
import Derived.JoinedTies
import Derived.KernelRfl
namespace Go.Proofs.YtepfaegpjddehaaGreatDoor
/- THE CELL 'sum', in the pinned program and in every row, IS THE sha256 OF THE DUMP (.gsa) THAT YtepfaegpjddehaaGreatDoorProg.lean LOADS. Nothing in Lean hashes anything: it is a label: what it is worth is what the hold of that sum in a sandbox is worth. -/
noncomputable def Tryz.pinned : Pinned := { name := "ytepfaegpjddehaagreatdoor", sum := "100951373966d3769eac82dc08c5fdeac6ac56a1dee41243a32692b290e8444e", checked := Tryz.checked }
namespace Rows
def none {H : Type} : Left H := { results := [], args := [] }

/- WHAT THE LISTED PACKAGE-LEVEL VARIABLES READ AS WHEN THE CALL BEGINS. Each datum BY PROGRAM (the guide's laid-datum.mjs) off the statement by which the dump's own 'gosem.cut.vars' lays the variable. In a bare row this is a premise. The card (YtepfaegpjddehaaGreatDoorCards.lean) ties it to the program's text. -/
def laid_math_bits_deBruijn32tab {H : Type} : DataW H := .agg [.lit (.int .u8 0), .lit (.int .u8 1), .lit (.int .u8 28), .lit (.int .u8 2), .lit (.int .u8 29), .lit (.int .u8 14), .lit (.int .u8 24), .lit (.int .u8 3), .lit (.int .u8 30), .lit (.int .u8 22), .lit (.int .u8 20), .lit (.int .u8 15), .lit (.int .u8 25), .lit (.int .u8 17), .lit (.int .u8 4), .lit (.int .u8 8), .lit (.int .u8 31), .lit (.int .u8 27), .lit (.int .u8 13), .lit (.int .u8 23), .lit (.int .u8 21), .lit (.int .u8 19), .lit (.int .u8 16), .lit (.int .u8 7), .lit (.int .u8 26), .lit (.int .u8 12), .lit (.int .u8 18), .lit (.int .u8 6), .lit (.int .u8 11), .lit (.int .u8 5), .lit (.int .u8 10), .lit (.int .u8 9)]
def laid_math_bits_deBruijn64tab {H : Type} : DataW H := .agg [.lit (.int .u8 0), .lit (.int .u8 1), .lit (.int .u8 56), .lit (.int .u8 2), .lit (.int .u8 57), .lit (.int .u8 49), .lit (.int .u8 28), .lit (.int .u8 3), .lit (.int .u8 61), .lit (.int .u8 58), .lit (.int .u8 42), .lit (.int .u8 50), .lit (.int .u8 38), .lit (.int .u8 29), .lit (.int .u8 17), .lit (.int .u8 4), .lit (.int .u8 62), .lit (.int .u8 47), .lit (.int .u8 59), .lit (.int .u8 36), .lit (.int .u8 45), .lit (.int .u8 43), .lit (.int .u8 51), .lit (.int .u8 22), .lit (.int .u8 53), .lit (.int .u8 39), .lit (.int .u8 33), .lit (.int .u8 30), .lit (.int .u8 24), .lit (.int .u8 18), .lit (.int .u8 12), .lit (.int .u8 5), .lit (.int .u8 63), .lit (.int .u8 55), .lit (.int .u8 48), .lit (.int .u8 27), .lit (.int .u8 60), .lit (.int .u8 41), .lit (.int .u8 37), .lit (.int .u8 16), .lit (.int .u8 46), .lit (.int .u8 35), .lit (.int .u8 44), .lit (.int .u8 21), .lit (.int .u8 52), .lit (.int .u8 32), .lit (.int .u8 23), .lit (.int .u8 11), .lit (.int .u8 54), .lit (.int .u8 26), .lit (.int .u8 40), .lit (.int .u8 15), .lit (.int .u8 34), .lit (.int .u8 20), .lit (.int .u8 31), .lit (.int .u8 10), .lit (.int .u8 25), .lit (.int .u8 14), .lit (.int .u8 19), .lit (.int .u8 9), .lit (.int .u8 13), .lit (.int .u8 8), .lit (.int .u8 7), .lit (.int .u8 6)]
def laid_internal_strconv_uint64pow10 {H : Type} : DataW H := .agg [.lit (.int .u64 1), .lit (.int .u64 10), .lit (.int .u64 100), .lit (.int .u64 1000), .lit (.int .u64 10000), .lit (.int .u64 100000), .lit (.int .u64 1000000), .lit (.int .u64 10000000), .lit (.int .u64 100000000), .lit (.int .u64 1000000000), .lit (.int .u64 10000000000), .lit (.int .u64 100000000000), .lit (.int .u64 1000000000000), .lit (.int .u64 10000000000000), .lit (.int .u64 100000000000000), .lit (.int .u64 1000000000000000), .lit (.int .u64 10000000000000000), .lit (.int .u64 100000000000000000), .lit (.int .u64 1000000000000000000), .lit (.int .u64 10000000000000000000)]

/-- 'talismanlaw07.CountSets': WHATEVER THE INPUT: true; the input reads as it did. -/
def countSetsSpec : ChangeSpec := { name := "countSets", fn := fun _ => fun
  | [d1, d2, d3] => { results := [.lit (.bool true)], args := [d1, d2, d3] }
  | _ => none }
def countSetsRow : OpenClaim := { program := "ytepfaegpjddehaagreatdoor", sum := "100951373966d3769eac82dc08c5fdeac6ac56a1dee41243a32692b290e8444e", func := "talisman/talismanlaw07.CountSets", spec := "countSets", inPlace := ["internal/abi.NoEscape", "internal/bytealg.MakeNoZero"], unfollowed := true, recurses := true, named := ["internal/strconv.uint64pow10", "math/bits.deBruijn32tab", "math/bits.deBruijn64tab"], plainKeys := false, apart := false, laid := [("math/bits.deBruijn32tab", laid_math_bits_deBruijn32tab), ("math/bits.deBruijn64tab", laid_math_bits_deBruijn64tab), ("internal/strconv.uint64pow10", laid_internal_strconv_uint64pow10)] }
def CountSetsSaid : Prop := countSetsRow.holds Tryz.pinned (OpenSpec.ofChange countSetsSpec)

/-- ITS FALSE NEIGHBOUR: 'it returns false'. Refute it at one input. -/
def countSetsWrong : ChangeSpec := { name := "countSets", fn := fun _ => fun
  | [d1, d2, d3] => { results := [.lit (.bool false)], args := [d1, d2, d3] }
  | _ => none }
def CountSetsWrongFalsely : Prop := countSetsRow.holds Tryz.pinned (OpenSpec.ofChange countSetsWrong)

/-- 'talismanlaw07.CountBounds': WHATEVER THE INPUT: true; the input reads as it did. -/
def countBoundsSpec : ChangeSpec := { name := "countBounds", fn := fun _ => fun
  | [d] => { results := [.lit (.bool true)], args := [d] }
  | _ => none }
def countBoundsRow : OpenClaim := { program := "ytepfaegpjddehaagreatdoor", sum := "100951373966d3769eac82dc08c5fdeac6ac56a1dee41243a32692b290e8444e", func := "talisman/talismanlaw07.CountBounds", spec := "countBounds", inPlace := ["internal/abi.NoEscape", "internal/bytealg.MakeNoZero"], unfollowed := true, recurses := true, named := ["internal/strconv.uint64pow10", "math/bits.deBruijn32tab", "math/bits.deBruijn64tab"], plainKeys := false, apart := false, laid := [("math/bits.deBruijn32tab", laid_math_bits_deBruijn32tab), ("math/bits.deBruijn64tab", laid_math_bits_deBruijn64tab), ("internal/strconv.uint64pow10", laid_internal_strconv_uint64pow10)] }
def CountBoundsSaid : Prop := countBoundsRow.holds Tryz.pinned (OpenSpec.ofChange countBoundsSpec)

/-- ITS FALSE NEIGHBOUR: 'it returns false'. Refute it at one input. -/
def countBoundsWrong : ChangeSpec := { name := "countBounds", fn := fun _ => fun
  | [d] => { results := [.lit (.bool false)], args := [d] }
  | _ => none }
def CountBoundsWrongFalsely : Prop := countBoundsRow.holds Tryz.pinned (OpenSpec.ofChange countBoundsWrong)

/-- 'talismanlaw07.CountBounded': WHATEVER THE INPUT: true; the input reads as it did. -/
def countBoundedSpec : ChangeSpec := { name := "countBounded", fn := fun _ => fun
  | [d1, d2, d3] => { results := [.lit (.bool true)], args := [d1, d2, d3] }
  | _ => none }
def countBoundedRow : OpenClaim := { program := "ytepfaegpjddehaagreatdoor", sum := "100951373966d3769eac82dc08c5fdeac6ac56a1dee41243a32692b290e8444e", func := "talisman/talismanlaw07.CountBounded", spec := "countBounded", inPlace := ["internal/abi.NoEscape", "internal/bytealg.MakeNoZero"], unfollowed := true, recurses := true, named := ["internal/strconv.uint64pow10", "math/bits.deBruijn32tab", "math/bits.deBruijn64tab"], plainKeys := false, apart := false, laid := [("math/bits.deBruijn32tab", laid_math_bits_deBruijn32tab), ("math/bits.deBruijn64tab", laid_math_bits_deBruijn64tab), ("internal/strconv.uint64pow10", laid_internal_strconv_uint64pow10)] }
def CountBoundedSaid : Prop := countBoundedRow.holds Tryz.pinned (OpenSpec.ofChange countBoundedSpec)

/-- ITS FALSE NEIGHBOUR: 'it returns false'. Refute it at one input. -/
def countBoundedWrong : ChangeSpec := { name := "countBounded", fn := fun _ => fun
  | [d1, d2, d3] => { results := [.lit (.bool false)], args := [d1, d2, d3] }
  | _ => none }
def CountBoundedWrongFalsely : Prop := countBoundedRow.holds Tryz.pinned (OpenSpec.ofChange countBoundedWrong)

/-- 'talismanlaw07.CountHalves': WHATEVER THE INPUT: true; the input reads as it did. -/
def countHalvesSpec : ChangeSpec := { name := "countHalves", fn := fun _ => fun
  | [d1, d2, d3] => { results := [.lit (.bool true)], args := [d1, d2, d3] }
  | _ => none }
def countHalvesRow : OpenClaim := { program := "ytepfaegpjddehaagreatdoor", sum := "100951373966d3769eac82dc08c5fdeac6ac56a1dee41243a32692b290e8444e", func := "talisman/talismanlaw07.CountHalves", spec := "countHalves", inPlace := ["internal/abi.NoEscape", "internal/bytealg.MakeNoZero"], unfollowed := true, recurses := true, named := ["internal/strconv.uint64pow10", "math/bits.deBruijn32tab", "math/bits.deBruijn64tab"], plainKeys := false, apart := false, laid := [("math/bits.deBruijn32tab", laid_math_bits_deBruijn32tab), ("math/bits.deBruijn64tab", laid_math_bits_deBruijn64tab), ("internal/strconv.uint64pow10", laid_internal_strconv_uint64pow10)] }
def CountHalvesSaid : Prop := countHalvesRow.holds Tryz.pinned (OpenSpec.ofChange countHalvesSpec)

/-- ITS FALSE NEIGHBOUR: 'it returns false'. Refute it at one input. -/
def countHalvesWrong : ChangeSpec := { name := "countHalves", fn := fun _ => fun
  | [d1, d2, d3] => { results := [.lit (.bool false)], args := [d1, d2, d3] }
  | _ => none }
def CountHalvesWrongFalsely : Prop := countHalvesRow.holds Tryz.pinned (OpenSpec.ofChange countHalvesWrong)

/-- 'talismanlaw07.CountKeys': WHATEVER THE INPUT: true; the input reads as it did. -/
def countKeysSpec : ChangeSpec := { name := "countKeys", fn := fun _ => fun
  | [d1, d2] => { results := [.lit (.bool true)], args := [d1, d2] }
  | _ => none }
def countKeysRow : OpenClaim := { program := "ytepfaegpjddehaagreatdoor", sum := "100951373966d3769eac82dc08c5fdeac6ac56a1dee41243a32692b290e8444e", func := "talisman/talismanlaw07.CountKeys", spec := "countKeys", inPlace := ["internal/abi.NoEscape", "internal/bytealg.MakeNoZero"], unfollowed := true, recurses := true, named := ["internal/strconv.uint64pow10", "math/bits.deBruijn32tab", "math/bits.deBruijn64tab"], plainKeys := false, apart := false, laid := [("math/bits.deBruijn32tab", laid_math_bits_deBruijn32tab), ("math/bits.deBruijn64tab", laid_math_bits_deBruijn64tab), ("internal/strconv.uint64pow10", laid_internal_strconv_uint64pow10)] }
def CountKeysSaid : Prop := countKeysRow.holds Tryz.pinned (OpenSpec.ofChange countKeysSpec)

/-- ITS FALSE NEIGHBOUR: 'it returns false'. Refute it at one input. -/
def countKeysWrong : ChangeSpec := { name := "countKeys", fn := fun _ => fun
  | [d1, d2] => { results := [.lit (.bool false)], args := [d1, d2] }
  | _ => none }
def CountKeysWrongFalsely : Prop := countKeysRow.holds Tryz.pinned (OpenSpec.ofChange countKeysWrong)

/-- 'talismanlaw07.CountAntimagic': WHATEVER THE INPUT: true; the input reads as it did. -/
def countAntimagicSpec : ChangeSpec := { name := "countAntimagic", fn := fun _ => fun
  | [d] => { results := [.lit (.bool true)], args := [d] }
  | _ => none }
def countAntimagicRow : OpenClaim := { program := "ytepfaegpjddehaagreatdoor", sum := "100951373966d3769eac82dc08c5fdeac6ac56a1dee41243a32692b290e8444e", func := "talisman/talismanlaw07.CountAntimagic", spec := "countAntimagic", inPlace := ["internal/abi.NoEscape", "internal/bytealg.MakeNoZero"], unfollowed := true, recurses := true, named := ["internal/strconv.uint64pow10", "math/bits.deBruijn32tab", "math/bits.deBruijn64tab"], plainKeys := false, apart := false, laid := [("math/bits.deBruijn32tab", laid_math_bits_deBruijn32tab), ("math/bits.deBruijn64tab", laid_math_bits_deBruijn64tab), ("internal/strconv.uint64pow10", laid_internal_strconv_uint64pow10)] }
def CountAntimagicSaid : Prop := countAntimagicRow.holds Tryz.pinned (OpenSpec.ofChange countAntimagicSpec)

/-- ITS FALSE NEIGHBOUR: 'it returns false'. Refute it at one input. -/
def countAntimagicWrong : ChangeSpec := { name := "countAntimagic", fn := fun _ => fun
  | [d] => { results := [.lit (.bool false)], args := [d] }
  | _ => none }
def CountAntimagicWrongFalsely : Prop := countAntimagicRow.holds Tryz.pinned (OpenSpec.ofChange countAntimagicWrong)

/-- 'talismanlaw07.CountMeets': WHATEVER THE INPUT: true; the input reads as it did. -/
def countMeetsSpec : ChangeSpec := { name := "countMeets", fn := fun _ => fun
  | [d1, d2, d3] => { results := [.lit (.bool true)], args := [d1, d2, d3] }
  | _ => none }
def countMeetsRow : OpenClaim := { program := "ytepfaegpjddehaagreatdoor", sum := "100951373966d3769eac82dc08c5fdeac6ac56a1dee41243a32692b290e8444e", func := "talisman/talismanlaw07.CountMeets", spec := "countMeets", inPlace := ["internal/abi.NoEscape", "internal/bytealg.MakeNoZero"], unfollowed := true, recurses := true, named := ["internal/strconv.uint64pow10", "math/bits.deBruijn32tab", "math/bits.deBruijn64tab"], plainKeys := false, apart := false, laid := [("math/bits.deBruijn32tab", laid_math_bits_deBruijn32tab), ("math/bits.deBruijn64tab", laid_math_bits_deBruijn64tab), ("internal/strconv.uint64pow10", laid_internal_strconv_uint64pow10)] }
def CountMeetsSaid : Prop := countMeetsRow.holds Tryz.pinned (OpenSpec.ofChange countMeetsSpec)

/-- ITS FALSE NEIGHBOUR: 'it returns false'. Refute it at one input. -/
def countMeetsWrong : ChangeSpec := { name := "countMeets", fn := fun _ => fun
  | [d1, d2, d3] => { results := [.lit (.bool false)], args := [d1, d2, d3] }
  | _ => none }
def CountMeetsWrongFalsely : Prop := countMeetsRow.holds Tryz.pinned (OpenSpec.ofChange countMeetsWrong)

/-- 'talismanlaw07.CountKeyed': WHATEVER THE INPUT: true; the input reads as it did. -/
def countKeyedSpec : ChangeSpec := { name := "countKeyed", fn := fun _ => fun
  | [d1, d2, d3] => { results := [.lit (.bool true)], args := [d1, d2, d3] }
  | _ => none }
def countKeyedRow : OpenClaim := { program := "ytepfaegpjddehaagreatdoor", sum := "100951373966d3769eac82dc08c5fdeac6ac56a1dee41243a32692b290e8444e", func := "talisman/talismanlaw07.CountKeyed", spec := "countKeyed", inPlace := ["internal/abi.NoEscape", "internal/bytealg.MakeNoZero"], unfollowed := true, recurses := true, named := ["internal/strconv.uint64pow10", "math/bits.deBruijn32tab", "math/bits.deBruijn64tab"], plainKeys := false, apart := false, laid := [("math/bits.deBruijn32tab", laid_math_bits_deBruijn32tab), ("math/bits.deBruijn64tab", laid_math_bits_deBruijn64tab), ("internal/strconv.uint64pow10", laid_internal_strconv_uint64pow10)] }
def CountKeyedSaid : Prop := countKeyedRow.holds Tryz.pinned (OpenSpec.ofChange countKeyedSpec)

/-- ITS FALSE NEIGHBOUR: 'it returns false'. Refute it at one input. -/
def countKeyedWrong : ChangeSpec := { name := "countKeyed", fn := fun _ => fun
  | [d1, d2, d3] => { results := [.lit (.bool false)], args := [d1, d2, d3] }
  | _ => none }
def CountKeyedWrongFalsely : Prop := countKeyedRow.holds Tryz.pinned (OpenSpec.ofChange countKeyedWrong)

/-- 'talismanlaw07.CountFillings': WHATEVER THE INPUT: true; the input reads as it did. -/
def countFillingsSpec : ChangeSpec := { name := "countFillings", fn := fun _ => fun
  | [d1, d2] => { results := [.lit (.bool true)], args := [d1, d2] }
  | _ => none }
def countFillingsRow : OpenClaim := { program := "ytepfaegpjddehaagreatdoor", sum := "100951373966d3769eac82dc08c5fdeac6ac56a1dee41243a32692b290e8444e", func := "talisman/talismanlaw07.CountFillings", spec := "countFillings", inPlace := ["internal/abi.NoEscape", "internal/bytealg.MakeNoZero"], unfollowed := true, recurses := true, named := ["internal/strconv.uint64pow10", "math/bits.deBruijn32tab", "math/bits.deBruijn64tab"], plainKeys := false, apart := false, laid := [("math/bits.deBruijn32tab", laid_math_bits_deBruijn32tab), ("math/bits.deBruijn64tab", laid_math_bits_deBruijn64tab), ("internal/strconv.uint64pow10", laid_internal_strconv_uint64pow10)] }
def CountFillingsSaid : Prop := countFillingsRow.holds Tryz.pinned (OpenSpec.ofChange countFillingsSpec)

/-- ITS FALSE NEIGHBOUR: 'it returns false'. Refute it at one input. -/
def countFillingsWrong : ChangeSpec := { name := "countFillings", fn := fun _ => fun
  | [d1, d2] => { results := [.lit (.bool false)], args := [d1, d2] }
  | _ => none }
def CountFillingsWrongFalsely : Prop := countFillingsRow.holds Tryz.pinned (OpenSpec.ofChange countFillingsWrong)

/-- 'talismanlaw07.CountClasses': WHATEVER THE INPUT: true; the input reads as it did. -/
def countClassesSpec : ChangeSpec := { name := "countClasses", fn := fun _ => fun
  | [d1, d2] => { results := [.lit (.bool true)], args := [d1, d2] }
  | _ => none }
def countClassesRow : OpenClaim := { program := "ytepfaegpjddehaagreatdoor", sum := "100951373966d3769eac82dc08c5fdeac6ac56a1dee41243a32692b290e8444e", func := "talisman/talismanlaw07.CountClasses", spec := "countClasses", inPlace := ["internal/abi.NoEscape", "internal/bytealg.MakeNoZero"], unfollowed := true, recurses := true, named := ["internal/strconv.uint64pow10", "math/bits.deBruijn32tab", "math/bits.deBruijn64tab"], plainKeys := false, apart := false, laid := [("math/bits.deBruijn32tab", laid_math_bits_deBruijn32tab), ("math/bits.deBruijn64tab", laid_math_bits_deBruijn64tab), ("internal/strconv.uint64pow10", laid_internal_strconv_uint64pow10)] }
def CountClassesSaid : Prop := countClassesRow.holds Tryz.pinned (OpenSpec.ofChange countClassesSpec)

/-- ITS FALSE NEIGHBOUR: 'it returns false'. Refute it at one input. -/
def countClassesWrong : ChangeSpec := { name := "countClasses", fn := fun _ => fun
  | [d1, d2] => { results := [.lit (.bool false)], args := [d1, d2] }
  | _ => none }
def CountClassesWrongFalsely : Prop := countClassesRow.holds Tryz.pinned (OpenSpec.ofChange countClassesWrong)

/-- 'talismanlaw07.CountComplements': WHATEVER THE INPUT: true; the input reads as it did. -/
def countComplementsSpec : ChangeSpec := { name := "countComplements", fn := fun _ => fun
  | [d1, d2, d3] => { results := [.lit (.bool true)], args := [d1, d2, d3] }
  | _ => none }
def countComplementsRow : OpenClaim := { program := "ytepfaegpjddehaagreatdoor", sum := "100951373966d3769eac82dc08c5fdeac6ac56a1dee41243a32692b290e8444e", func := "talisman/talismanlaw07.CountComplements", spec := "countComplements", inPlace := ["internal/abi.NoEscape", "internal/bytealg.MakeNoZero"], unfollowed := true, recurses := true, named := ["internal/strconv.uint64pow10", "math/bits.deBruijn32tab", "math/bits.deBruijn64tab"], plainKeys := false, apart := false, laid := [("math/bits.deBruijn32tab", laid_math_bits_deBruijn32tab), ("math/bits.deBruijn64tab", laid_math_bits_deBruijn64tab), ("internal/strconv.uint64pow10", laid_internal_strconv_uint64pow10)] }
def CountComplementsSaid : Prop := countComplementsRow.holds Tryz.pinned (OpenSpec.ofChange countComplementsSpec)

/-- ITS FALSE NEIGHBOUR: 'it returns false'. Refute it at one input. -/
def countComplementsWrong : ChangeSpec := { name := "countComplements", fn := fun _ => fun
  | [d1, d2, d3] => { results := [.lit (.bool false)], args := [d1, d2, d3] }
  | _ => none }
def CountComplementsWrongFalsely : Prop := countComplementsRow.holds Tryz.pinned (OpenSpec.ofChange countComplementsWrong)

/-- 'talismanlaw07.CountBurnside': WHATEVER THE INPUT: true; the input reads as it did. -/
def countBurnsideSpec : ChangeSpec := { name := "countBurnside", fn := fun _ => fun
  | [d1, d2] => { results := [.lit (.bool true)], args := [d1, d2] }
  | _ => none }
def countBurnsideRow : OpenClaim := { program := "ytepfaegpjddehaagreatdoor", sum := "100951373966d3769eac82dc08c5fdeac6ac56a1dee41243a32692b290e8444e", func := "talisman/talismanlaw07.CountBurnside", spec := "countBurnside", inPlace := ["internal/abi.NoEscape", "internal/bytealg.MakeNoZero"], unfollowed := true, recurses := true, named := ["internal/strconv.uint64pow10", "math/bits.deBruijn32tab", "math/bits.deBruijn64tab"], plainKeys := false, apart := false, laid := [("math/bits.deBruijn32tab", laid_math_bits_deBruijn32tab), ("math/bits.deBruijn64tab", laid_math_bits_deBruijn64tab), ("internal/strconv.uint64pow10", laid_internal_strconv_uint64pow10)] }
def CountBurnsideSaid : Prop := countBurnsideRow.holds Tryz.pinned (OpenSpec.ofChange countBurnsideSpec)

/-- ITS FALSE NEIGHBOUR: 'it returns false'. Refute it at one input. -/
def countBurnsideWrong : ChangeSpec := { name := "countBurnside", fn := fun _ => fun
  | [d1, d2] => { results := [.lit (.bool false)], args := [d1, d2] }
  | _ => none }
def CountBurnsideWrongFalsely : Prop := countBurnsideRow.holds Tryz.pinned (OpenSpec.ofChange countBurnsideWrong)

/-- 'talismanlaw07.CountTotals': WHATEVER THE INPUT: true; the input reads as it did. -/
def countTotalsSpec : ChangeSpec := { name := "countTotals", fn := fun _ => fun
  | [d] => { results := [.lit (.bool true)], args := [d] }
  | _ => none }
def countTotalsRow : OpenClaim := { program := "ytepfaegpjddehaagreatdoor", sum := "100951373966d3769eac82dc08c5fdeac6ac56a1dee41243a32692b290e8444e", func := "talisman/talismanlaw07.CountTotals", spec := "countTotals", inPlace := ["internal/abi.NoEscape", "internal/bytealg.MakeNoZero"], unfollowed := true, recurses := true, named := ["internal/strconv.uint64pow10", "math/bits.deBruijn32tab", "math/bits.deBruijn64tab"], plainKeys := false, apart := false, laid := [("math/bits.deBruijn32tab", laid_math_bits_deBruijn32tab), ("math/bits.deBruijn64tab", laid_math_bits_deBruijn64tab), ("internal/strconv.uint64pow10", laid_internal_strconv_uint64pow10)] }
def CountTotalsSaid : Prop := countTotalsRow.holds Tryz.pinned (OpenSpec.ofChange countTotalsSpec)

/-- ITS FALSE NEIGHBOUR: 'it returns false'. Refute it at one input. -/
def countTotalsWrong : ChangeSpec := { name := "countTotals", fn := fun _ => fun
  | [d] => { results := [.lit (.bool false)], args := [d] }
  | _ => none }
def CountTotalsWrongFalsely : Prop := countTotalsRow.holds Tryz.pinned (OpenSpec.ofChange countTotalsWrong)

/-- 'talismanlaw07.CountConstants': WHATEVER THE INPUT: true; the input reads as it did. -/
def countConstantsSpec : ChangeSpec := { name := "countConstants", fn := fun _ => fun
  | [d] => { results := [.lit (.bool true)], args := [d] }
  | _ => none }
def countConstantsRow : OpenClaim := { program := "ytepfaegpjddehaagreatdoor", sum := "100951373966d3769eac82dc08c5fdeac6ac56a1dee41243a32692b290e8444e", func := "talisman/talismanlaw07.CountConstants", spec := "countConstants", inPlace := ["internal/abi.NoEscape", "internal/bytealg.MakeNoZero"], unfollowed := true, recurses := true, named := ["internal/strconv.uint64pow10", "math/bits.deBruijn32tab", "math/bits.deBruijn64tab"], plainKeys := false, apart := false, laid := [("math/bits.deBruijn32tab", laid_math_bits_deBruijn32tab), ("math/bits.deBruijn64tab", laid_math_bits_deBruijn64tab), ("internal/strconv.uint64pow10", laid_internal_strconv_uint64pow10)] }
def CountConstantsSaid : Prop := countConstantsRow.holds Tryz.pinned (OpenSpec.ofChange countConstantsSpec)

/-- ITS FALSE NEIGHBOUR: 'it returns false'. Refute it at one input. -/
def countConstantsWrong : ChangeSpec := { name := "countConstants", fn := fun _ => fun
  | [d] => { results := [.lit (.bool false)], args := [d] }
  | _ => none }
def CountConstantsWrongFalsely : Prop := countConstantsRow.holds Tryz.pinned (OpenSpec.ofChange countConstantsWrong)

/-- 'talismanlaw07.CountAgrees': WHATEVER THE INPUT: true; the input reads as it did. -/
def countAgreesSpec : ChangeSpec := { name := "countAgrees", fn := fun _ => fun
  | [d] => { results := [.lit (.bool true)], args := [d] }
  | _ => none }
def countAgreesRow : OpenClaim := { program := "ytepfaegpjddehaagreatdoor", sum := "100951373966d3769eac82dc08c5fdeac6ac56a1dee41243a32692b290e8444e", func := "talisman/talismanlaw07.CountAgrees", spec := "countAgrees", inPlace := ["internal/abi.NoEscape", "internal/bytealg.MakeNoZero"], unfollowed := true, recurses := true, named := ["internal/strconv.uint64pow10", "math/bits.deBruijn32tab", "math/bits.deBruijn64tab"], plainKeys := false, apart := false, laid := [("math/bits.deBruijn32tab", laid_math_bits_deBruijn32tab), ("math/bits.deBruijn64tab", laid_math_bits_deBruijn64tab), ("internal/strconv.uint64pow10", laid_internal_strconv_uint64pow10)] }
def CountAgreesSaid : Prop := countAgreesRow.holds Tryz.pinned (OpenSpec.ofChange countAgreesSpec)

/-- ITS FALSE NEIGHBOUR: 'it returns false'. Refute it at one input. -/
def countAgreesWrong : ChangeSpec := { name := "countAgrees", fn := fun _ => fun
  | [d] => { results := [.lit (.bool false)], args := [d] }
  | _ => none }
def CountAgreesWrongFalsely : Prop := countAgreesRow.holds Tryz.pinned (OpenSpec.ofChange countAgreesWrong)

/- THE SECOND FORM. 'bulk': how many values and letters a reading holds, each counted each time it is reached (what is shared counts as often as it is met; a slice's spare places count too). A statement '..UptoSaid' is the law's where the arguments, and the package variables that the reading takes, are together of bulk at most 1048576: NARROWER than '..Said'. Prove '..Said' where nothing that the law and all that it calls make is longer than what came in: it says more and counts as full. Else prove '..UptoSaid'. A law counts once. -/
mutual
def uptoBulk {H : Type} : DataW H → Nat
  | .lit (.string bytes) => bytes.length + 1
  | .lit _ => 1
  | .nil => 1
  | .ptr d => uptoBulk d + 1
  | .slice elems spare => uptoBulkAll elems + uptoBulkAll spare + 1
  | .agg parts => uptoBulkAll parts + 1
  | .iface _ d => uptoBulk d + 1
  | .map entries => uptoBulkEntries entries + 1
  | .held _ => 1
def uptoBulkAll {H : Type} : List (DataW H) → Nat
  | [] => 0
  | d :: r => uptoBulk d + uptoBulkAll r
def uptoBulkEntries {H : Type} : List (Lit × DataW H) → Nat
  | [] => 0
  | x :: r => uptoBulkEntry x + uptoBulkEntries r
def uptoBulkEntry {H : Type} : Lit × DataW H → Nat
  | (.string bytes, d) => bytes.length + uptoBulk d + 1
  | (_, d) => uptoBulk d + 1
 end
def uptoSmall : (H : Type) → List (DataW H) → Bool := fun _ ds => decide (uptoBulkAll ds ≤ 1048576)
def OpenSpec.upto (s : _root_.Go.ChangeSpec) : _root_.Go.OpenSpec := { _root_.Go.OpenSpec.ofChange s with cond := some uptoSmall }

/-- 'talismanlaw07.CountSets', WHERE WHAT IT READS IS OF BULK AT MOST 1048576: true; the input reads as it did. -/
def countSetsUptoRow : OpenClaim := { program := "ytepfaegpjddehaagreatdoor", sum := "100951373966d3769eac82dc08c5fdeac6ac56a1dee41243a32692b290e8444e", func := "talisman/talismanlaw07.CountSets", spec := "countSets", inPlace := ["internal/abi.NoEscape", "internal/bytealg.MakeNoZero"], unfollowed := true, recurses := true, named := ["internal/strconv.uint64pow10", "math/bits.deBruijn32tab", "math/bits.deBruijn64tab"], plainKeys := false, apart := false, laid := [("math/bits.deBruijn32tab", laid_math_bits_deBruijn32tab), ("math/bits.deBruijn64tab", laid_math_bits_deBruijn64tab), ("internal/strconv.uint64pow10", laid_internal_strconv_uint64pow10)], narrowed := true }
def CountSetsUptoSaid : Prop := countSetsUptoRow.holds Tryz.pinned (OpenSpec.upto countSetsSpec)

/-- 'talismanlaw07.CountBounds', WHERE WHAT IT READS IS OF BULK AT MOST 1048576: true; the input reads as it did. -/
def countBoundsUptoRow : OpenClaim := { program := "ytepfaegpjddehaagreatdoor", sum := "100951373966d3769eac82dc08c5fdeac6ac56a1dee41243a32692b290e8444e", func := "talisman/talismanlaw07.CountBounds", spec := "countBounds", inPlace := ["internal/abi.NoEscape", "internal/bytealg.MakeNoZero"], unfollowed := true, recurses := true, named := ["internal/strconv.uint64pow10", "math/bits.deBruijn32tab", "math/bits.deBruijn64tab"], plainKeys := false, apart := false, laid := [("math/bits.deBruijn32tab", laid_math_bits_deBruijn32tab), ("math/bits.deBruijn64tab", laid_math_bits_deBruijn64tab), ("internal/strconv.uint64pow10", laid_internal_strconv_uint64pow10)], narrowed := true }
def CountBoundsUptoSaid : Prop := countBoundsUptoRow.holds Tryz.pinned (OpenSpec.upto countBoundsSpec)

/-- 'talismanlaw07.CountBounded', WHERE WHAT IT READS IS OF BULK AT MOST 1048576: true; the input reads as it did. -/
def countBoundedUptoRow : OpenClaim := { program := "ytepfaegpjddehaagreatdoor", sum := "100951373966d3769eac82dc08c5fdeac6ac56a1dee41243a32692b290e8444e", func := "talisman/talismanlaw07.CountBounded", spec := "countBounded", inPlace := ["internal/abi.NoEscape", "internal/bytealg.MakeNoZero"], unfollowed := true, recurses := true, named := ["internal/strconv.uint64pow10", "math/bits.deBruijn32tab", "math/bits.deBruijn64tab"], plainKeys := false, apart := false, laid := [("math/bits.deBruijn32tab", laid_math_bits_deBruijn32tab), ("math/bits.deBruijn64tab", laid_math_bits_deBruijn64tab), ("internal/strconv.uint64pow10", laid_internal_strconv_uint64pow10)], narrowed := true }
def CountBoundedUptoSaid : Prop := countBoundedUptoRow.holds Tryz.pinned (OpenSpec.upto countBoundedSpec)

/-- 'talismanlaw07.CountHalves', WHERE WHAT IT READS IS OF BULK AT MOST 1048576: true; the input reads as it did. -/
def countHalvesUptoRow : OpenClaim := { program := "ytepfaegpjddehaagreatdoor", sum := "100951373966d3769eac82dc08c5fdeac6ac56a1dee41243a32692b290e8444e", func := "talisman/talismanlaw07.CountHalves", spec := "countHalves", inPlace := ["internal/abi.NoEscape", "internal/bytealg.MakeNoZero"], unfollowed := true, recurses := true, named := ["internal/strconv.uint64pow10", "math/bits.deBruijn32tab", "math/bits.deBruijn64tab"], plainKeys := false, apart := false, laid := [("math/bits.deBruijn32tab", laid_math_bits_deBruijn32tab), ("math/bits.deBruijn64tab", laid_math_bits_deBruijn64tab), ("internal/strconv.uint64pow10", laid_internal_strconv_uint64pow10)], narrowed := true }
def CountHalvesUptoSaid : Prop := countHalvesUptoRow.holds Tryz.pinned (OpenSpec.upto countHalvesSpec)

/-- 'talismanlaw07.CountKeys', WHERE WHAT IT READS IS OF BULK AT MOST 1048576: true; the input reads as it did. -/
def countKeysUptoRow : OpenClaim := { program := "ytepfaegpjddehaagreatdoor", sum := "100951373966d3769eac82dc08c5fdeac6ac56a1dee41243a32692b290e8444e", func := "talisman/talismanlaw07.CountKeys", spec := "countKeys", inPlace := ["internal/abi.NoEscape", "internal/bytealg.MakeNoZero"], unfollowed := true, recurses := true, named := ["internal/strconv.uint64pow10", "math/bits.deBruijn32tab", "math/bits.deBruijn64tab"], plainKeys := false, apart := false, laid := [("math/bits.deBruijn32tab", laid_math_bits_deBruijn32tab), ("math/bits.deBruijn64tab", laid_math_bits_deBruijn64tab), ("internal/strconv.uint64pow10", laid_internal_strconv_uint64pow10)], narrowed := true }
def CountKeysUptoSaid : Prop := countKeysUptoRow.holds Tryz.pinned (OpenSpec.upto countKeysSpec)

/-- 'talismanlaw07.CountAntimagic', WHERE WHAT IT READS IS OF BULK AT MOST 1048576: true; the input reads as it did. -/
def countAntimagicUptoRow : OpenClaim := { program := "ytepfaegpjddehaagreatdoor", sum := "100951373966d3769eac82dc08c5fdeac6ac56a1dee41243a32692b290e8444e", func := "talisman/talismanlaw07.CountAntimagic", spec := "countAntimagic", inPlace := ["internal/abi.NoEscape", "internal/bytealg.MakeNoZero"], unfollowed := true, recurses := true, named := ["internal/strconv.uint64pow10", "math/bits.deBruijn32tab", "math/bits.deBruijn64tab"], plainKeys := false, apart := false, laid := [("math/bits.deBruijn32tab", laid_math_bits_deBruijn32tab), ("math/bits.deBruijn64tab", laid_math_bits_deBruijn64tab), ("internal/strconv.uint64pow10", laid_internal_strconv_uint64pow10)], narrowed := true }
def CountAntimagicUptoSaid : Prop := countAntimagicUptoRow.holds Tryz.pinned (OpenSpec.upto countAntimagicSpec)

/-- 'talismanlaw07.CountMeets', WHERE WHAT IT READS IS OF BULK AT MOST 1048576: true; the input reads as it did. -/
def countMeetsUptoRow : OpenClaim := { program := "ytepfaegpjddehaagreatdoor", sum := "100951373966d3769eac82dc08c5fdeac6ac56a1dee41243a32692b290e8444e", func := "talisman/talismanlaw07.CountMeets", spec := "countMeets", inPlace := ["internal/abi.NoEscape", "internal/bytealg.MakeNoZero"], unfollowed := true, recurses := true, named := ["internal/strconv.uint64pow10", "math/bits.deBruijn32tab", "math/bits.deBruijn64tab"], plainKeys := false, apart := false, laid := [("math/bits.deBruijn32tab", laid_math_bits_deBruijn32tab), ("math/bits.deBruijn64tab", laid_math_bits_deBruijn64tab), ("internal/strconv.uint64pow10", laid_internal_strconv_uint64pow10)], narrowed := true }
def CountMeetsUptoSaid : Prop := countMeetsUptoRow.holds Tryz.pinned (OpenSpec.upto countMeetsSpec)

/-- 'talismanlaw07.CountKeyed', WHERE WHAT IT READS IS OF BULK AT MOST 1048576: true; the input reads as it did. -/
def countKeyedUptoRow : OpenClaim := { program := "ytepfaegpjddehaagreatdoor", sum := "100951373966d3769eac82dc08c5fdeac6ac56a1dee41243a32692b290e8444e", func := "talisman/talismanlaw07.CountKeyed", spec := "countKeyed", inPlace := ["internal/abi.NoEscape", "internal/bytealg.MakeNoZero"], unfollowed := true, recurses := true, named := ["internal/strconv.uint64pow10", "math/bits.deBruijn32tab", "math/bits.deBruijn64tab"], plainKeys := false, apart := false, laid := [("math/bits.deBruijn32tab", laid_math_bits_deBruijn32tab), ("math/bits.deBruijn64tab", laid_math_bits_deBruijn64tab), ("internal/strconv.uint64pow10", laid_internal_strconv_uint64pow10)], narrowed := true }
def CountKeyedUptoSaid : Prop := countKeyedUptoRow.holds Tryz.pinned (OpenSpec.upto countKeyedSpec)

/-- 'talismanlaw07.CountFillings', WHERE WHAT IT READS IS OF BULK AT MOST 1048576: true; the input reads as it did. -/
def countFillingsUptoRow : OpenClaim := { program := "ytepfaegpjddehaagreatdoor", sum := "100951373966d3769eac82dc08c5fdeac6ac56a1dee41243a32692b290e8444e", func := "talisman/talismanlaw07.CountFillings", spec := "countFillings", inPlace := ["internal/abi.NoEscape", "internal/bytealg.MakeNoZero"], unfollowed := true, recurses := true, named := ["internal/strconv.uint64pow10", "math/bits.deBruijn32tab", "math/bits.deBruijn64tab"], plainKeys := false, apart := false, laid := [("math/bits.deBruijn32tab", laid_math_bits_deBruijn32tab), ("math/bits.deBruijn64tab", laid_math_bits_deBruijn64tab), ("internal/strconv.uint64pow10", laid_internal_strconv_uint64pow10)], narrowed := true }
def CountFillingsUptoSaid : Prop := countFillingsUptoRow.holds Tryz.pinned (OpenSpec.upto countFillingsSpec)

/-- 'talismanlaw07.CountClasses', WHERE WHAT IT READS IS OF BULK AT MOST 1048576: true; the input reads as it did. -/
def countClassesUptoRow : OpenClaim := { program := "ytepfaegpjddehaagreatdoor", sum := "100951373966d3769eac82dc08c5fdeac6ac56a1dee41243a32692b290e8444e", func := "talisman/talismanlaw07.CountClasses", spec := "countClasses", inPlace := ["internal/abi.NoEscape", "internal/bytealg.MakeNoZero"], unfollowed := true, recurses := true, named := ["internal/strconv.uint64pow10", "math/bits.deBruijn32tab", "math/bits.deBruijn64tab"], plainKeys := false, apart := false, laid := [("math/bits.deBruijn32tab", laid_math_bits_deBruijn32tab), ("math/bits.deBruijn64tab", laid_math_bits_deBruijn64tab), ("internal/strconv.uint64pow10", laid_internal_strconv_uint64pow10)], narrowed := true }
def CountClassesUptoSaid : Prop := countClassesUptoRow.holds Tryz.pinned (OpenSpec.upto countClassesSpec)

/-- 'talismanlaw07.CountComplements', WHERE WHAT IT READS IS OF BULK AT MOST 1048576: true; the input reads as it did. -/
def countComplementsUptoRow : OpenClaim := { program := "ytepfaegpjddehaagreatdoor", sum := "100951373966d3769eac82dc08c5fdeac6ac56a1dee41243a32692b290e8444e", func := "talisman/talismanlaw07.CountComplements", spec := "countComplements", inPlace := ["internal/abi.NoEscape", "internal/bytealg.MakeNoZero"], unfollowed := true, recurses := true, named := ["internal/strconv.uint64pow10", "math/bits.deBruijn32tab", "math/bits.deBruijn64tab"], plainKeys := false, apart := false, laid := [("math/bits.deBruijn32tab", laid_math_bits_deBruijn32tab), ("math/bits.deBruijn64tab", laid_math_bits_deBruijn64tab), ("internal/strconv.uint64pow10", laid_internal_strconv_uint64pow10)], narrowed := true }
def CountComplementsUptoSaid : Prop := countComplementsUptoRow.holds Tryz.pinned (OpenSpec.upto countComplementsSpec)

/-- 'talismanlaw07.CountBurnside', WHERE WHAT IT READS IS OF BULK AT MOST 1048576: true; the input reads as it did. -/
def countBurnsideUptoRow : OpenClaim := { program := "ytepfaegpjddehaagreatdoor", sum := "100951373966d3769eac82dc08c5fdeac6ac56a1dee41243a32692b290e8444e", func := "talisman/talismanlaw07.CountBurnside", spec := "countBurnside", inPlace := ["internal/abi.NoEscape", "internal/bytealg.MakeNoZero"], unfollowed := true, recurses := true, named := ["internal/strconv.uint64pow10", "math/bits.deBruijn32tab", "math/bits.deBruijn64tab"], plainKeys := false, apart := false, laid := [("math/bits.deBruijn32tab", laid_math_bits_deBruijn32tab), ("math/bits.deBruijn64tab", laid_math_bits_deBruijn64tab), ("internal/strconv.uint64pow10", laid_internal_strconv_uint64pow10)], narrowed := true }
def CountBurnsideUptoSaid : Prop := countBurnsideUptoRow.holds Tryz.pinned (OpenSpec.upto countBurnsideSpec)

/-- 'talismanlaw07.CountTotals', WHERE WHAT IT READS IS OF BULK AT MOST 1048576: true; the input reads as it did. -/
def countTotalsUptoRow : OpenClaim := { program := "ytepfaegpjddehaagreatdoor", sum := "100951373966d3769eac82dc08c5fdeac6ac56a1dee41243a32692b290e8444e", func := "talisman/talismanlaw07.CountTotals", spec := "countTotals", inPlace := ["internal/abi.NoEscape", "internal/bytealg.MakeNoZero"], unfollowed := true, recurses := true, named := ["internal/strconv.uint64pow10", "math/bits.deBruijn32tab", "math/bits.deBruijn64tab"], plainKeys := false, apart := false, laid := [("math/bits.deBruijn32tab", laid_math_bits_deBruijn32tab), ("math/bits.deBruijn64tab", laid_math_bits_deBruijn64tab), ("internal/strconv.uint64pow10", laid_internal_strconv_uint64pow10)], narrowed := true }
def CountTotalsUptoSaid : Prop := countTotalsUptoRow.holds Tryz.pinned (OpenSpec.upto countTotalsSpec)

/-- 'talismanlaw07.CountConstants', WHERE WHAT IT READS IS OF BULK AT MOST 1048576: true; the input reads as it did. -/
def countConstantsUptoRow : OpenClaim := { program := "ytepfaegpjddehaagreatdoor", sum := "100951373966d3769eac82dc08c5fdeac6ac56a1dee41243a32692b290e8444e", func := "talisman/talismanlaw07.CountConstants", spec := "countConstants", inPlace := ["internal/abi.NoEscape", "internal/bytealg.MakeNoZero"], unfollowed := true, recurses := true, named := ["internal/strconv.uint64pow10", "math/bits.deBruijn32tab", "math/bits.deBruijn64tab"], plainKeys := false, apart := false, laid := [("math/bits.deBruijn32tab", laid_math_bits_deBruijn32tab), ("math/bits.deBruijn64tab", laid_math_bits_deBruijn64tab), ("internal/strconv.uint64pow10", laid_internal_strconv_uint64pow10)], narrowed := true }
def CountConstantsUptoSaid : Prop := countConstantsUptoRow.holds Tryz.pinned (OpenSpec.upto countConstantsSpec)

/-- 'talismanlaw07.CountAgrees', WHERE WHAT IT READS IS OF BULK AT MOST 1048576: true; the input reads as it did. -/
def countAgreesUptoRow : OpenClaim := { program := "ytepfaegpjddehaagreatdoor", sum := "100951373966d3769eac82dc08c5fdeac6ac56a1dee41243a32692b290e8444e", func := "talisman/talismanlaw07.CountAgrees", spec := "countAgrees", inPlace := ["internal/abi.NoEscape", "internal/bytealg.MakeNoZero"], unfollowed := true, recurses := true, named := ["internal/strconv.uint64pow10", "math/bits.deBruijn32tab", "math/bits.deBruijn64tab"], plainKeys := false, apart := false, laid := [("math/bits.deBruijn32tab", laid_math_bits_deBruijn32tab), ("math/bits.deBruijn64tab", laid_math_bits_deBruijn64tab), ("internal/strconv.uint64pow10", laid_internal_strconv_uint64pow10)], narrowed := true }
def CountAgreesUptoSaid : Prop := countAgreesUptoRow.holds Tryz.pinned (OpenSpec.upto countAgreesSpec)

end Rows
end Go.Proofs.YtepfaegpjddehaaGreatDoor
