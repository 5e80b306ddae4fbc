/-
  NARROWER THAN 'FOR EVERY INPUT', by the rows' own cells (each row's printed sentence says how): GroupChecks: laid · GroupClosures: laid · GroupAutomorphisms: laid · GroupCounts: laid · GroupCosets: laid · GroupColours: laid · GroupSymmetries: laid · GroupSquares: laid · GroupKeeps: laid · GroupOrbits: laid · GroupLagrange: laid · GroupActs: laid · GroupSystems: laid · GroupSames: laid · GroupImages: laid.
  DERIVED. THE GIVEN ROWS OF THIS SEAT. 15 by the template 'for every input the law returns true; each argument reads behind the call as it read before'; 0 by the template 'total and deterministic' (their statements: YtkjkjpmahgeneaaGreatDoorTotals.lean).
  GIVEN WITH THE SEED: the statements are not yours to turn. If you find one false, say at which input.
  Laid BY PROGRAM, IN A SANDBOX (cutbox-rows.mjs): the forced cells as the released guide's own fill.sh prints them over the translation f04b50dcda3b8f6a… (all of the seat's roots in one cut). By AI agents, Wed Nov 11 2026. No macro, syntax, notation, axiom, sorry.
-/
import Derived.Test.YtkjkjpmahgeneaaGreatDoorChecked
import GoSem.Claim
import GoSem.ClaimJoined
import GoSem.ClaimMapViews
import Derived.JoinedTies
import Derived.KernelRfl
namespace Go.Proofs.YtkjkjpmahgeneaaGreatDoor
/- THE CELL 'sum', in the pinned program and in every row, IS THE sha256 OF THE DUMP (.gsa) THAT YtkjkjpmahgeneaaGreatDoorProg.lean LOADS. Nothing in Lean hashes anything: it is a label: what it is worth is what the hold of that sum in a sandbox is worth. -/
noncomputable def Tryz.pinned : Pinned := { name := "ytkjkjpmahgeneaagreatdoor", sum := "f04b50dcda3b8f6a956c44cbd9cfed50a559195ea610095228fc0cdb1f9d6d43", checked := Tryz.checked }
namespace Rows
def none {H : Type} : Left H := { results := [], args := [] }

/- WHAT THE LISTED PACKAGE-LEVEL VARIABLES READ AS WHEN THE CALL BEGINS. Each datum BY PROGRAM (the guide's laid-datum.mjs) off the statement by which the dump's own 'gosem.cut.vars' lays the variable. In a bare row this is a premise. The card (YtkjkjpmahgeneaaGreatDoorCards.lean) ties it to the program's text. -/
def laid_math_bits_deBruijn32tab {H : Type} : DataW H := .agg [.lit (.int .u8 0), .lit (.int .u8 1), .lit (.int .u8 28), .lit (.int .u8 2), .lit (.int .u8 29), .lit (.int .u8 14), .lit (.int .u8 24), .lit (.int .u8 3), .lit (.int .u8 30), .lit (.int .u8 22), .lit (.int .u8 20), .lit (.int .u8 15), .lit (.int .u8 25), .lit (.int .u8 17), .lit (.int .u8 4), .lit (.int .u8 8), .lit (.int .u8 31), .lit (.int .u8 27), .lit (.int .u8 13), .lit (.int .u8 23), .lit (.int .u8 21), .lit (.int .u8 19), .lit (.int .u8 16), .lit (.int .u8 7), .lit (.int .u8 26), .lit (.int .u8 12), .lit (.int .u8 18), .lit (.int .u8 6), .lit (.int .u8 11), .lit (.int .u8 5), .lit (.int .u8 10), .lit (.int .u8 9)]
def laid_math_bits_deBruijn64tab {H : Type} : DataW H := .agg [.lit (.int .u8 0), .lit (.int .u8 1), .lit (.int .u8 56), .lit (.int .u8 2), .lit (.int .u8 57), .lit (.int .u8 49), .lit (.int .u8 28), .lit (.int .u8 3), .lit (.int .u8 61), .lit (.int .u8 58), .lit (.int .u8 42), .lit (.int .u8 50), .lit (.int .u8 38), .lit (.int .u8 29), .lit (.int .u8 17), .lit (.int .u8 4), .lit (.int .u8 62), .lit (.int .u8 47), .lit (.int .u8 59), .lit (.int .u8 36), .lit (.int .u8 45), .lit (.int .u8 43), .lit (.int .u8 51), .lit (.int .u8 22), .lit (.int .u8 53), .lit (.int .u8 39), .lit (.int .u8 33), .lit (.int .u8 30), .lit (.int .u8 24), .lit (.int .u8 18), .lit (.int .u8 12), .lit (.int .u8 5), .lit (.int .u8 63), .lit (.int .u8 55), .lit (.int .u8 48), .lit (.int .u8 27), .lit (.int .u8 60), .lit (.int .u8 41), .lit (.int .u8 37), .lit (.int .u8 16), .lit (.int .u8 46), .lit (.int .u8 35), .lit (.int .u8 44), .lit (.int .u8 21), .lit (.int .u8 52), .lit (.int .u8 32), .lit (.int .u8 23), .lit (.int .u8 11), .lit (.int .u8 54), .lit (.int .u8 26), .lit (.int .u8 40), .lit (.int .u8 15), .lit (.int .u8 34), .lit (.int .u8 20), .lit (.int .u8 31), .lit (.int .u8 10), .lit (.int .u8 25), .lit (.int .u8 14), .lit (.int .u8 19), .lit (.int .u8 9), .lit (.int .u8 13), .lit (.int .u8 8), .lit (.int .u8 7), .lit (.int .u8 6)]
def laid_internal_strconv_uint64pow10 {H : Type} : DataW H := .agg [.lit (.int .u64 1), .lit (.int .u64 10), .lit (.int .u64 100), .lit (.int .u64 1000), .lit (.int .u64 10000), .lit (.int .u64 100000), .lit (.int .u64 1000000), .lit (.int .u64 10000000), .lit (.int .u64 100000000), .lit (.int .u64 1000000000), .lit (.int .u64 10000000000), .lit (.int .u64 100000000000), .lit (.int .u64 1000000000000), .lit (.int .u64 10000000000000), .lit (.int .u64 100000000000000), .lit (.int .u64 1000000000000000), .lit (.int .u64 10000000000000000), .lit (.int .u64 100000000000000000), .lit (.int .u64 1000000000000000000), .lit (.int .u64 10000000000000000000)]

/-- 'talismanlaw05.GroupChecks': WHATEVER THE INPUT: true; the input reads as it did. -/
def groupChecksSpec : ChangeSpec := { name := "groupChecks", fn := fun _ => fun
  | [d1, d2] => { results := [.lit (.bool true)], args := [d1, d2] }
  | _ => none }
def groupChecksRow : OpenClaim := { program := "ytkjkjpmahgeneaagreatdoor", sum := "f04b50dcda3b8f6a956c44cbd9cfed50a559195ea610095228fc0cdb1f9d6d43", func := "talisman/talismanlaw05.GroupChecks", spec := "groupChecks", inPlace := ["math/bits.Add64", "math/bits.Sub64", "internal/abi.NoEscape", "internal/bytealg.MakeNoZero"], unfollowed := true, recurses := true, named := ["math/bits.divideError", "math/bits.overflowError", "internal/strconv.uint64pow10", "math/bits.deBruijn32tab", "math/bits.deBruijn64tab"], apart := false, laid := [("math/bits.deBruijn32tab", laid_math_bits_deBruijn32tab), ("math/bits.deBruijn64tab", laid_math_bits_deBruijn64tab), ("internal/strconv.uint64pow10", laid_internal_strconv_uint64pow10)] }
def GroupChecksSaid : Prop := groupChecksRow.holds Tryz.pinned (OpenSpec.ofChange groupChecksSpec)

/-- ITS FALSE NEIGHBOUR: 'it returns false'. Refute it at one input. -/
def groupChecksWrong : ChangeSpec := { name := "groupChecks", fn := fun _ => fun
  | [d1, d2] => { results := [.lit (.bool false)], args := [d1, d2] }
  | _ => none }
def GroupChecksWrongFalsely : Prop := groupChecksRow.holds Tryz.pinned (OpenSpec.ofChange groupChecksWrong)

/-- 'talismanlaw05.GroupClosures': WHATEVER THE INPUT: true; the input reads as it did. -/
def groupClosuresSpec : ChangeSpec := { name := "groupClosures", fn := fun _ => fun
  | [d1, d2] => { results := [.lit (.bool true)], args := [d1, d2] }
  | _ => none }
def groupClosuresRow : OpenClaim := { program := "ytkjkjpmahgeneaagreatdoor", sum := "f04b50dcda3b8f6a956c44cbd9cfed50a559195ea610095228fc0cdb1f9d6d43", func := "talisman/talismanlaw05.GroupClosures", spec := "groupClosures", inPlace := ["math/bits.Add64", "math/bits.Sub64", "internal/abi.NoEscape", "internal/bytealg.MakeNoZero"], unfollowed := true, recurses := true, named := ["math/bits.divideError", "math/bits.overflowError", "internal/strconv.uint64pow10", "math/bits.deBruijn32tab", "math/bits.deBruijn64tab"], apart := false, laid := [("math/bits.deBruijn32tab", laid_math_bits_deBruijn32tab), ("math/bits.deBruijn64tab", laid_math_bits_deBruijn64tab), ("internal/strconv.uint64pow10", laid_internal_strconv_uint64pow10)] }
def GroupClosuresSaid : Prop := groupClosuresRow.holds Tryz.pinned (OpenSpec.ofChange groupClosuresSpec)

/-- ITS FALSE NEIGHBOUR: 'it returns false'. Refute it at one input. -/
def groupClosuresWrong : ChangeSpec := { name := "groupClosures", fn := fun _ => fun
  | [d1, d2] => { results := [.lit (.bool false)], args := [d1, d2] }
  | _ => none }
def GroupClosuresWrongFalsely : Prop := groupClosuresRow.holds Tryz.pinned (OpenSpec.ofChange groupClosuresWrong)

/-- 'talismanlaw05.GroupAutomorphisms': WHATEVER THE INPUT: true; the input reads as it did. -/
def groupAutomorphismsSpec : ChangeSpec := { name := "groupAutomorphisms", fn := fun _ => fun
  | [d] => { results := [.lit (.bool true)], args := [d] }
  | _ => none }
def groupAutomorphismsRow : OpenClaim := { program := "ytkjkjpmahgeneaagreatdoor", sum := "f04b50dcda3b8f6a956c44cbd9cfed50a559195ea610095228fc0cdb1f9d6d43", func := "talisman/talismanlaw05.GroupAutomorphisms", spec := "groupAutomorphisms", inPlace := ["math/bits.Add64", "math/bits.Sub64", "internal/abi.NoEscape", "internal/bytealg.MakeNoZero"], unfollowed := true, recurses := true, named := ["math/bits.divideError", "math/bits.overflowError", "internal/strconv.uint64pow10", "math/bits.deBruijn32tab", "math/bits.deBruijn64tab"], apart := false, laid := [("math/bits.deBruijn32tab", laid_math_bits_deBruijn32tab), ("math/bits.deBruijn64tab", laid_math_bits_deBruijn64tab), ("internal/strconv.uint64pow10", laid_internal_strconv_uint64pow10)] }
def GroupAutomorphismsSaid : Prop := groupAutomorphismsRow.holds Tryz.pinned (OpenSpec.ofChange groupAutomorphismsSpec)

/-- ITS FALSE NEIGHBOUR: 'it returns false'. Refute it at one input. -/
def groupAutomorphismsWrong : ChangeSpec := { name := "groupAutomorphisms", fn := fun _ => fun
  | [d] => { results := [.lit (.bool false)], args := [d] }
  | _ => none }
def GroupAutomorphismsWrongFalsely : Prop := groupAutomorphismsRow.holds Tryz.pinned (OpenSpec.ofChange groupAutomorphismsWrong)

/-- 'talismanlaw05.GroupCounts': WHATEVER THE INPUT: true; the input reads as it did. -/
def groupCountsSpec : ChangeSpec := { name := "groupCounts", fn := fun _ => fun
  | [d1, d2, d3] => { results := [.lit (.bool true)], args := [d1, d2, d3] }
  | _ => none }
def groupCountsRow : OpenClaim := { program := "ytkjkjpmahgeneaagreatdoor", sum := "f04b50dcda3b8f6a956c44cbd9cfed50a559195ea610095228fc0cdb1f9d6d43", func := "talisman/talismanlaw05.GroupCounts", spec := "groupCounts", inPlace := ["math/bits.Add64", "math/bits.Sub64", "internal/abi.NoEscape", "internal/bytealg.MakeNoZero"], unfollowed := true, recurses := true, named := ["math/bits.divideError", "math/bits.overflowError", "internal/strconv.uint64pow10", "math/bits.deBruijn32tab", "math/bits.deBruijn64tab"], apart := false, laid := [("math/bits.deBruijn32tab", laid_math_bits_deBruijn32tab), ("math/bits.deBruijn64tab", laid_math_bits_deBruijn64tab), ("internal/strconv.uint64pow10", laid_internal_strconv_uint64pow10)] }
def GroupCountsSaid : Prop := groupCountsRow.holds Tryz.pinned (OpenSpec.ofChange groupCountsSpec)

/-- ITS FALSE NEIGHBOUR: 'it returns false'. Refute it at one input. -/
def groupCountsWrong : ChangeSpec := { name := "groupCounts", fn := fun _ => fun
  | [d1, d2, d3] => { results := [.lit (.bool false)], args := [d1, d2, d3] }
  | _ => none }
def GroupCountsWrongFalsely : Prop := groupCountsRow.holds Tryz.pinned (OpenSpec.ofChange groupCountsWrong)

/-- 'talismanlaw05.GroupCosets': WHATEVER THE INPUT: true; the input reads as it did. -/
def groupCosetsSpec : ChangeSpec := { name := "groupCosets", fn := fun _ => fun
  | [d1, d2, d3] => { results := [.lit (.bool true)], args := [d1, d2, d3] }
  | _ => none }
def groupCosetsRow : OpenClaim := { program := "ytkjkjpmahgeneaagreatdoor", sum := "f04b50dcda3b8f6a956c44cbd9cfed50a559195ea610095228fc0cdb1f9d6d43", func := "talisman/talismanlaw05.GroupCosets", spec := "groupCosets", inPlace := ["math/bits.Add64", "math/bits.Sub64", "internal/abi.NoEscape", "internal/bytealg.MakeNoZero"], unfollowed := true, recurses := true, named := ["math/bits.divideError", "math/bits.overflowError", "internal/strconv.uint64pow10", "math/bits.deBruijn32tab", "math/bits.deBruijn64tab"], apart := false, laid := [("math/bits.deBruijn32tab", laid_math_bits_deBruijn32tab), ("math/bits.deBruijn64tab", laid_math_bits_deBruijn64tab), ("internal/strconv.uint64pow10", laid_internal_strconv_uint64pow10)] }
def GroupCosetsSaid : Prop := groupCosetsRow.holds Tryz.pinned (OpenSpec.ofChange groupCosetsSpec)

/-- ITS FALSE NEIGHBOUR: 'it returns false'. Refute it at one input. -/
def groupCosetsWrong : ChangeSpec := { name := "groupCosets", fn := fun _ => fun
  | [d1, d2, d3] => { results := [.lit (.bool false)], args := [d1, d2, d3] }
  | _ => none }
def GroupCosetsWrongFalsely : Prop := groupCosetsRow.holds Tryz.pinned (OpenSpec.ofChange groupCosetsWrong)

/-- 'talismanlaw05.GroupColours': WHATEVER THE INPUT: true; the input reads as it did. -/
def groupColoursSpec : ChangeSpec := { name := "groupColours", fn := fun _ => fun
  | [d1, d2, d3] => { results := [.lit (.bool true)], args := [d1, d2, d3] }
  | _ => none }
def groupColoursRow : OpenClaim := { program := "ytkjkjpmahgeneaagreatdoor", sum := "f04b50dcda3b8f6a956c44cbd9cfed50a559195ea610095228fc0cdb1f9d6d43", func := "talisman/talismanlaw05.GroupColours", spec := "groupColours", inPlace := ["math/bits.Add64", "math/bits.Sub64", "internal/abi.NoEscape", "internal/bytealg.MakeNoZero"], unfollowed := true, recurses := true, named := ["math/bits.divideError", "math/bits.overflowError", "internal/strconv.uint64pow10", "math/bits.deBruijn32tab", "math/bits.deBruijn64tab"], apart := false, laid := [("math/bits.deBruijn32tab", laid_math_bits_deBruijn32tab), ("math/bits.deBruijn64tab", laid_math_bits_deBruijn64tab), ("internal/strconv.uint64pow10", laid_internal_strconv_uint64pow10)] }
def GroupColoursSaid : Prop := groupColoursRow.holds Tryz.pinned (OpenSpec.ofChange groupColoursSpec)

/-- ITS FALSE NEIGHBOUR: 'it returns false'. Refute it at one input. -/
def groupColoursWrong : ChangeSpec := { name := "groupColours", fn := fun _ => fun
  | [d1, d2, d3] => { results := [.lit (.bool false)], args := [d1, d2, d3] }
  | _ => none }
def GroupColoursWrongFalsely : Prop := groupColoursRow.holds Tryz.pinned (OpenSpec.ofChange groupColoursWrong)

/-- 'talismanlaw05.GroupSymmetries': WHATEVER THE INPUT: true; the input reads as it did. -/
def groupSymmetriesSpec : ChangeSpec := { name := "groupSymmetries", fn := fun _ => fun
  | [d1, d2, d3] => { results := [.lit (.bool true)], args := [d1, d2, d3] }
  | _ => none }
def groupSymmetriesRow : OpenClaim := { program := "ytkjkjpmahgeneaagreatdoor", sum := "f04b50dcda3b8f6a956c44cbd9cfed50a559195ea610095228fc0cdb1f9d6d43", func := "talisman/talismanlaw05.GroupSymmetries", spec := "groupSymmetries", inPlace := ["math/bits.Add64", "math/bits.Sub64", "internal/abi.NoEscape", "internal/bytealg.MakeNoZero"], unfollowed := true, recurses := true, named := ["math/bits.divideError", "math/bits.overflowError", "internal/strconv.uint64pow10", "math/bits.deBruijn32tab", "math/bits.deBruijn64tab"], apart := false, laid := [("math/bits.deBruijn32tab", laid_math_bits_deBruijn32tab), ("math/bits.deBruijn64tab", laid_math_bits_deBruijn64tab), ("internal/strconv.uint64pow10", laid_internal_strconv_uint64pow10)] }
def GroupSymmetriesSaid : Prop := groupSymmetriesRow.holds Tryz.pinned (OpenSpec.ofChange groupSymmetriesSpec)

/-- ITS FALSE NEIGHBOUR: 'it returns false'. Refute it at one input. -/
def groupSymmetriesWrong : ChangeSpec := { name := "groupSymmetries", fn := fun _ => fun
  | [d1, d2, d3] => { results := [.lit (.bool false)], args := [d1, d2, d3] }
  | _ => none }
def GroupSymmetriesWrongFalsely : Prop := groupSymmetriesRow.holds Tryz.pinned (OpenSpec.ofChange groupSymmetriesWrong)

/-- 'talismanlaw05.GroupSquares': WHATEVER THE INPUT: true; the input reads as it did. -/
def groupSquaresSpec : ChangeSpec := { name := "groupSquares", fn := fun _ => fun
  | [d] => { results := [.lit (.bool true)], args := [d] }
  | _ => none }
def groupSquaresRow : OpenClaim := { program := "ytkjkjpmahgeneaagreatdoor", sum := "f04b50dcda3b8f6a956c44cbd9cfed50a559195ea610095228fc0cdb1f9d6d43", func := "talisman/talismanlaw05.GroupSquares", spec := "groupSquares", inPlace := ["math/bits.Add64", "math/bits.Sub64", "internal/abi.NoEscape", "internal/bytealg.MakeNoZero"], unfollowed := true, recurses := true, named := ["math/bits.divideError", "math/bits.overflowError", "internal/strconv.uint64pow10", "math/bits.deBruijn32tab", "math/bits.deBruijn64tab"], apart := false, laid := [("math/bits.deBruijn32tab", laid_math_bits_deBruijn32tab), ("math/bits.deBruijn64tab", laid_math_bits_deBruijn64tab), ("internal/strconv.uint64pow10", laid_internal_strconv_uint64pow10)] }
def GroupSquaresSaid : Prop := groupSquaresRow.holds Tryz.pinned (OpenSpec.ofChange groupSquaresSpec)

/-- ITS FALSE NEIGHBOUR: 'it returns false'. Refute it at one input. -/
def groupSquaresWrong : ChangeSpec := { name := "groupSquares", fn := fun _ => fun
  | [d] => { results := [.lit (.bool false)], args := [d] }
  | _ => none }
def GroupSquaresWrongFalsely : Prop := groupSquaresRow.holds Tryz.pinned (OpenSpec.ofChange groupSquaresWrong)

/-- 'talismanlaw05.GroupKeeps': WHATEVER THE INPUT: true; the input reads as it did. -/
def groupKeepsSpec : ChangeSpec := { name := "groupKeeps", fn := fun _ => fun
  | [d1, d2] => { results := [.lit (.bool true)], args := [d1, d2] }
  | _ => none }
def groupKeepsRow : OpenClaim := { program := "ytkjkjpmahgeneaagreatdoor", sum := "f04b50dcda3b8f6a956c44cbd9cfed50a559195ea610095228fc0cdb1f9d6d43", func := "talisman/talismanlaw05.GroupKeeps", spec := "groupKeeps", inPlace := ["math/bits.Add64", "math/bits.Sub64", "internal/abi.NoEscape", "internal/bytealg.MakeNoZero"], unfollowed := true, recurses := true, named := ["math/bits.divideError", "math/bits.overflowError", "internal/strconv.uint64pow10", "math/bits.deBruijn32tab", "math/bits.deBruijn64tab"], apart := false, laid := [("math/bits.deBruijn32tab", laid_math_bits_deBruijn32tab), ("math/bits.deBruijn64tab", laid_math_bits_deBruijn64tab), ("internal/strconv.uint64pow10", laid_internal_strconv_uint64pow10)] }
def GroupKeepsSaid : Prop := groupKeepsRow.holds Tryz.pinned (OpenSpec.ofChange groupKeepsSpec)

/-- ITS FALSE NEIGHBOUR: 'it returns false'. Refute it at one input. -/
def groupKeepsWrong : ChangeSpec := { name := "groupKeeps", fn := fun _ => fun
  | [d1, d2] => { results := [.lit (.bool false)], args := [d1, d2] }
  | _ => none }
def GroupKeepsWrongFalsely : Prop := groupKeepsRow.holds Tryz.pinned (OpenSpec.ofChange groupKeepsWrong)

/-- 'talismanlaw05.GroupOrbits': WHATEVER THE INPUT: true; the input reads as it did. -/
def groupOrbitsSpec : ChangeSpec := { name := "groupOrbits", fn := fun _ => fun
  | [d1, d2] => { results := [.lit (.bool true)], args := [d1, d2] }
  | _ => none }
def groupOrbitsRow : OpenClaim := { program := "ytkjkjpmahgeneaagreatdoor", sum := "f04b50dcda3b8f6a956c44cbd9cfed50a559195ea610095228fc0cdb1f9d6d43", func := "talisman/talismanlaw05.GroupOrbits", spec := "groupOrbits", inPlace := ["math/bits.Add64", "math/bits.Sub64", "internal/abi.NoEscape", "internal/bytealg.MakeNoZero"], unfollowed := true, recurses := true, named := ["math/bits.divideError", "math/bits.overflowError", "internal/strconv.uint64pow10", "math/bits.deBruijn32tab", "math/bits.deBruijn64tab"], apart := false, laid := [("math/bits.deBruijn32tab", laid_math_bits_deBruijn32tab), ("math/bits.deBruijn64tab", laid_math_bits_deBruijn64tab), ("internal/strconv.uint64pow10", laid_internal_strconv_uint64pow10)] }
def GroupOrbitsSaid : Prop := groupOrbitsRow.holds Tryz.pinned (OpenSpec.ofChange groupOrbitsSpec)

/-- ITS FALSE NEIGHBOUR: 'it returns false'. Refute it at one input. -/
def groupOrbitsWrong : ChangeSpec := { name := "groupOrbits", fn := fun _ => fun
  | [d1, d2] => { results := [.lit (.bool false)], args := [d1, d2] }
  | _ => none }
def GroupOrbitsWrongFalsely : Prop := groupOrbitsRow.holds Tryz.pinned (OpenSpec.ofChange groupOrbitsWrong)

/-- 'talismanlaw05.GroupLagrange': WHATEVER THE INPUT: true; the input reads as it did. -/
def groupLagrangeSpec : ChangeSpec := { name := "groupLagrange", fn := fun _ => fun
  | [d1, d2] => { results := [.lit (.bool true)], args := [d1, d2] }
  | _ => none }
def groupLagrangeRow : OpenClaim := { program := "ytkjkjpmahgeneaagreatdoor", sum := "f04b50dcda3b8f6a956c44cbd9cfed50a559195ea610095228fc0cdb1f9d6d43", func := "talisman/talismanlaw05.GroupLagrange", spec := "groupLagrange", inPlace := ["math/bits.Add64", "math/bits.Sub64", "internal/abi.NoEscape", "internal/bytealg.MakeNoZero"], unfollowed := true, recurses := true, named := ["math/bits.divideError", "math/bits.overflowError", "internal/strconv.uint64pow10", "math/bits.deBruijn32tab", "math/bits.deBruijn64tab"], apart := false, laid := [("math/bits.deBruijn32tab", laid_math_bits_deBruijn32tab), ("math/bits.deBruijn64tab", laid_math_bits_deBruijn64tab), ("internal/strconv.uint64pow10", laid_internal_strconv_uint64pow10)] }
def GroupLagrangeSaid : Prop := groupLagrangeRow.holds Tryz.pinned (OpenSpec.ofChange groupLagrangeSpec)

/-- ITS FALSE NEIGHBOUR: 'it returns false'. Refute it at one input. -/
def groupLagrangeWrong : ChangeSpec := { name := "groupLagrange", fn := fun _ => fun
  | [d1, d2] => { results := [.lit (.bool false)], args := [d1, d2] }
  | _ => none }
def GroupLagrangeWrongFalsely : Prop := groupLagrangeRow.holds Tryz.pinned (OpenSpec.ofChange groupLagrangeWrong)

/-- 'talismanlaw05.GroupActs': WHATEVER THE INPUT: true; the input reads as it did. -/
def groupActsSpec : ChangeSpec := { name := "groupActs", fn := fun _ => fun
  | [d1, d2, d3] => { results := [.lit (.bool true)], args := [d1, d2, d3] }
  | _ => none }
def groupActsRow : OpenClaim := { program := "ytkjkjpmahgeneaagreatdoor", sum := "f04b50dcda3b8f6a956c44cbd9cfed50a559195ea610095228fc0cdb1f9d6d43", func := "talisman/talismanlaw05.GroupActs", spec := "groupActs", inPlace := ["math/bits.Add64", "math/bits.Sub64", "internal/abi.NoEscape", "internal/bytealg.MakeNoZero"], unfollowed := true, recurses := true, named := ["math/bits.divideError", "math/bits.overflowError", "internal/strconv.uint64pow10", "math/bits.deBruijn32tab", "math/bits.deBruijn64tab"], apart := false, laid := [("math/bits.deBruijn32tab", laid_math_bits_deBruijn32tab), ("math/bits.deBruijn64tab", laid_math_bits_deBruijn64tab), ("internal/strconv.uint64pow10", laid_internal_strconv_uint64pow10)] }
def GroupActsSaid : Prop := groupActsRow.holds Tryz.pinned (OpenSpec.ofChange groupActsSpec)

/-- ITS FALSE NEIGHBOUR: 'it returns false'. Refute it at one input. -/
def groupActsWrong : ChangeSpec := { name := "groupActs", fn := fun _ => fun
  | [d1, d2, d3] => { results := [.lit (.bool false)], args := [d1, d2, d3] }
  | _ => none }
def GroupActsWrongFalsely : Prop := groupActsRow.holds Tryz.pinned (OpenSpec.ofChange groupActsWrong)

/-- 'talismanlaw05.GroupSystems': WHATEVER THE INPUT: true; the input reads as it did. -/
def groupSystemsSpec : ChangeSpec := { name := "groupSystems", fn := fun _ => fun
  | [d1, d2, d3] => { results := [.lit (.bool true)], args := [d1, d2, d3] }
  | _ => none }
def groupSystemsRow : OpenClaim := { program := "ytkjkjpmahgeneaagreatdoor", sum := "f04b50dcda3b8f6a956c44cbd9cfed50a559195ea610095228fc0cdb1f9d6d43", func := "talisman/talismanlaw05.GroupSystems", spec := "groupSystems", inPlace := ["math/bits.Add64", "math/bits.Sub64", "internal/abi.NoEscape", "internal/bytealg.MakeNoZero"], unfollowed := true, recurses := true, named := ["math/bits.divideError", "math/bits.overflowError", "internal/strconv.uint64pow10", "math/bits.deBruijn32tab", "math/bits.deBruijn64tab"], apart := false, laid := [("math/bits.deBruijn32tab", laid_math_bits_deBruijn32tab), ("math/bits.deBruijn64tab", laid_math_bits_deBruijn64tab), ("internal/strconv.uint64pow10", laid_internal_strconv_uint64pow10)] }
def GroupSystemsSaid : Prop := groupSystemsRow.holds Tryz.pinned (OpenSpec.ofChange groupSystemsSpec)

/-- ITS FALSE NEIGHBOUR: 'it returns false'. Refute it at one input. -/
def groupSystemsWrong : ChangeSpec := { name := "groupSystems", fn := fun _ => fun
  | [d1, d2, d3] => { results := [.lit (.bool false)], args := [d1, d2, d3] }
  | _ => none }
def GroupSystemsWrongFalsely : Prop := groupSystemsRow.holds Tryz.pinned (OpenSpec.ofChange groupSystemsWrong)

/-- 'talismanlaw05.GroupSames': WHATEVER THE INPUT: true; the input reads as it did. -/
def groupSamesSpec : ChangeSpec := { name := "groupSames", fn := fun _ => fun
  | [d1, d2, d3] => { results := [.lit (.bool true)], args := [d1, d2, d3] }
  | _ => none }
def groupSamesRow : OpenClaim := { program := "ytkjkjpmahgeneaagreatdoor", sum := "f04b50dcda3b8f6a956c44cbd9cfed50a559195ea610095228fc0cdb1f9d6d43", func := "talisman/talismanlaw05.GroupSames", spec := "groupSames", inPlace := ["math/bits.Add64", "math/bits.Sub64", "internal/abi.NoEscape", "internal/bytealg.MakeNoZero"], unfollowed := true, recurses := true, named := ["math/bits.divideError", "math/bits.overflowError", "internal/strconv.uint64pow10", "math/bits.deBruijn32tab", "math/bits.deBruijn64tab"], apart := false, laid := [("math/bits.deBruijn32tab", laid_math_bits_deBruijn32tab), ("math/bits.deBruijn64tab", laid_math_bits_deBruijn64tab), ("internal/strconv.uint64pow10", laid_internal_strconv_uint64pow10)] }
def GroupSamesSaid : Prop := groupSamesRow.holds Tryz.pinned (OpenSpec.ofChange groupSamesSpec)

/-- ITS FALSE NEIGHBOUR: 'it returns false'. Refute it at one input. -/
def groupSamesWrong : ChangeSpec := { name := "groupSames", fn := fun _ => fun
  | [d1, d2, d3] => { results := [.lit (.bool false)], args := [d1, d2, d3] }
  | _ => none }
def GroupSamesWrongFalsely : Prop := groupSamesRow.holds Tryz.pinned (OpenSpec.ofChange groupSamesWrong)

/-- 'talismanlaw05.GroupImages': WHATEVER THE INPUT: true; the input reads as it did. -/
def groupImagesSpec : ChangeSpec := { name := "groupImages", fn := fun _ => fun
  | [d1, d2, d3] => { results := [.lit (.bool true)], args := [d1, d2, d3] }
  | _ => none }
def groupImagesRow : OpenClaim := { program := "ytkjkjpmahgeneaagreatdoor", sum := "f04b50dcda3b8f6a956c44cbd9cfed50a559195ea610095228fc0cdb1f9d6d43", func := "talisman/talismanlaw05.GroupImages", spec := "groupImages", inPlace := ["math/bits.Add64", "math/bits.Sub64", "internal/abi.NoEscape", "internal/bytealg.MakeNoZero"], unfollowed := true, recurses := true, named := ["math/bits.divideError", "math/bits.overflowError", "internal/strconv.uint64pow10", "math/bits.deBruijn32tab", "math/bits.deBruijn64tab"], apart := false, laid := [("math/bits.deBruijn32tab", laid_math_bits_deBruijn32tab), ("math/bits.deBruijn64tab", laid_math_bits_deBruijn64tab), ("internal/strconv.uint64pow10", laid_internal_strconv_uint64pow10)] }
def GroupImagesSaid : Prop := groupImagesRow.holds Tryz.pinned (OpenSpec.ofChange groupImagesSpec)

/-- ITS FALSE NEIGHBOUR: 'it returns false'. Refute it at one input. -/
def groupImagesWrong : ChangeSpec := { name := "groupImages", fn := fun _ => fun
  | [d1, d2, d3] => { results := [.lit (.bool false)], args := [d1, d2, d3] }
  | _ => none }
def GroupImagesWrongFalsely : Prop := groupImagesRow.holds Tryz.pinned (OpenSpec.ofChange groupImagesWrong)

/- THE SECOND FORM. 'bulk': how many values and letters a reading holds, each counted each time it is reached (what is shared counts as often as it is met; a slice's spare places count too). A statement '..UptoSaid' is the law's where the arguments, and the package variables that the reading takes, are together of bulk at most 1048576: NARROWER than '..Said'. Prove '..Said' where nothing that the law and all that it calls make is longer than what came in: it says more and counts as full. Else prove '..UptoSaid'. A law counts once. -/
mutual
def uptoBulk {H : Type} : DataW H → Nat
  | .lit (.string bytes) => bytes.length + 1
  | .lit _ => 1
  | .nil => 1
  | .ptr d => uptoBulk d + 1
  | .slice elems spare => uptoBulkAll elems + uptoBulkAll spare + 1
  | .agg parts => uptoBulkAll parts + 1
  | .iface _ d => uptoBulk d + 1
  | .map entries => uptoBulkEntries entries + 1
  | .held _ => 1
def uptoBulkAll {H : Type} : List (DataW H) → Nat
  | [] => 0
  | d :: r => uptoBulk d + uptoBulkAll r
def uptoBulkEntries {H : Type} : List (Lit × DataW H) → Nat
  | [] => 0
  | x :: r => uptoBulkEntry x + uptoBulkEntries r
def uptoBulkEntry {H : Type} : Lit × DataW H → Nat
  | (.string bytes, d) => bytes.length + uptoBulk d + 1
  | (_, d) => uptoBulk d + 1
 end
def uptoSmall : (H : Type) → List (DataW H) → Bool := fun _ ds => decide (uptoBulkAll ds ≤ 1048576)
def OpenSpec.upto (s : _root_.Go.ChangeSpec) : _root_.Go.OpenSpec := { _root_.Go.OpenSpec.ofChange s with cond := some uptoSmall }

/-- 'talismanlaw05.GroupChecks', WHERE WHAT IT READS IS OF BULK AT MOST 1048576: true; the input reads as it did. -/
def groupChecksUptoRow : OpenClaim := { program := "ytkjkjpmahgeneaagreatdoor", sum := "f04b50dcda3b8f6a956c44cbd9cfed50a559195ea610095228fc0cdb1f9d6d43", func := "talisman/talismanlaw05.GroupChecks", spec := "groupChecks", inPlace := ["math/bits.Add64", "math/bits.Sub64", "internal/abi.NoEscape", "internal/bytealg.MakeNoZero"], unfollowed := true, recurses := true, named := ["math/bits.divideError", "math/bits.overflowError", "internal/strconv.uint64pow10", "math/bits.deBruijn32tab", "math/bits.deBruijn64tab"], apart := false, laid := [("math/bits.deBruijn32tab", laid_math_bits_deBruijn32tab), ("math/bits.deBruijn64tab", laid_math_bits_deBruijn64tab), ("internal/strconv.uint64pow10", laid_internal_strconv_uint64pow10)], narrowed := true }
def GroupChecksUptoSaid : Prop := groupChecksUptoRow.holds Tryz.pinned (OpenSpec.upto groupChecksSpec)

/-- 'talismanlaw05.GroupClosures', WHERE WHAT IT READS IS OF BULK AT MOST 1048576: true; the input reads as it did. -/
def groupClosuresUptoRow : OpenClaim := { program := "ytkjkjpmahgeneaagreatdoor", sum := "f04b50dcda3b8f6a956c44cbd9cfed50a559195ea610095228fc0cdb1f9d6d43", func := "talisman/talismanlaw05.GroupClosures", spec := "groupClosures", inPlace := ["math/bits.Add64", "math/bits.Sub64", "internal/abi.NoEscape", "internal/bytealg.MakeNoZero"], unfollowed := true, recurses := true, named := ["math/bits.divideError", "math/bits.overflowError", "internal/strconv.uint64pow10", "math/bits.deBruijn32tab", "math/bits.deBruijn64tab"], apart := false, laid := [("math/bits.deBruijn32tab", laid_math_bits_deBruijn32tab), ("math/bits.deBruijn64tab", laid_math_bits_deBruijn64tab), ("internal/strconv.uint64pow10", laid_internal_strconv_uint64pow10)], narrowed := true }
def GroupClosuresUptoSaid : Prop := groupClosuresUptoRow.holds Tryz.pinned (OpenSpec.upto groupClosuresSpec)

/-- 'talismanlaw05.GroupAutomorphisms', WHERE WHAT IT READS IS OF BULK AT MOST 1048576: true; the input reads as it did. -/
def groupAutomorphismsUptoRow : OpenClaim := { program := "ytkjkjpmahgeneaagreatdoor", sum := "f04b50dcda3b8f6a956c44cbd9cfed50a559195ea610095228fc0cdb1f9d6d43", func := "talisman/talismanlaw05.GroupAutomorphisms", spec := "groupAutomorphisms", inPlace := ["math/bits.Add64", "math/bits.Sub64", "internal/abi.NoEscape", "internal/bytealg.MakeNoZero"], unfollowed := true, recurses := true, named := ["math/bits.divideError", "math/bits.overflowError", "internal/strconv.uint64pow10", "math/bits.deBruijn32tab", "math/bits.deBruijn64tab"], apart := false, laid := [("math/bits.deBruijn32tab", laid_math_bits_deBruijn32tab), ("math/bits.deBruijn64tab", laid_math_bits_deBruijn64tab), ("internal/strconv.uint64pow10", laid_internal_strconv_uint64pow10)], narrowed := true }
def GroupAutomorphismsUptoSaid : Prop := groupAutomorphismsUptoRow.holds Tryz.pinned (OpenSpec.upto groupAutomorphismsSpec)

/-- 'talismanlaw05.GroupCounts', WHERE WHAT IT READS IS OF BULK AT MOST 1048576: true; the input reads as it did. -/
def groupCountsUptoRow : OpenClaim := { program := "ytkjkjpmahgeneaagreatdoor", sum := "f04b50dcda3b8f6a956c44cbd9cfed50a559195ea610095228fc0cdb1f9d6d43", func := "talisman/talismanlaw05.GroupCounts", spec := "groupCounts", inPlace := ["math/bits.Add64", "math/bits.Sub64", "internal/abi.NoEscape", "internal/bytealg.MakeNoZero"], unfollowed := true, recurses := true, named := ["math/bits.divideError", "math/bits.overflowError", "internal/strconv.uint64pow10", "math/bits.deBruijn32tab", "math/bits.deBruijn64tab"], apart := false, laid := [("math/bits.deBruijn32tab", laid_math_bits_deBruijn32tab), ("math/bits.deBruijn64tab", laid_math_bits_deBruijn64tab), ("internal/strconv.uint64pow10", laid_internal_strconv_uint64pow10)], narrowed := true }
def GroupCountsUptoSaid : Prop := groupCountsUptoRow.holds Tryz.pinned (OpenSpec.upto groupCountsSpec)

/-- 'talismanlaw05.GroupCosets', WHERE WHAT IT READS IS OF BULK AT MOST 1048576: true; the input reads as it did. -/
def groupCosetsUptoRow : OpenClaim := { program := "ytkjkjpmahgeneaagreatdoor", sum := "f04b50dcda3b8f6a956c44cbd9cfed50a559195ea610095228fc0cdb1f9d6d43", func := "talisman/talismanlaw05.GroupCosets", spec := "groupCosets", inPlace := ["math/bits.Add64", "math/bits.Sub64", "internal/abi.NoEscape", "internal/bytealg.MakeNoZero"], unfollowed := true, recurses := true, named := ["math/bits.divideError", "math/bits.overflowError", "internal/strconv.uint64pow10", "math/bits.deBruijn32tab", "math/bits.deBruijn64tab"], apart := false, laid := [("math/bits.deBruijn32tab", laid_math_bits_deBruijn32tab), ("math/bits.deBruijn64tab", laid_math_bits_deBruijn64tab), ("internal/strconv.uint64pow10", laid_internal_strconv_uint64pow10)], narrowed := true }
def GroupCosetsUptoSaid : Prop := groupCosetsUptoRow.holds Tryz.pinned (OpenSpec.upto groupCosetsSpec)

/-- 'talismanlaw05.GroupColours', WHERE WHAT IT READS IS OF BULK AT MOST 1048576: true; the input reads as it did. -/
def groupColoursUptoRow : OpenClaim := { program := "ytkjkjpmahgeneaagreatdoor", sum := "f04b50dcda3b8f6a956c44cbd9cfed50a559195ea610095228fc0cdb1f9d6d43", func := "talisman/talismanlaw05.GroupColours", spec := "groupColours", inPlace := ["math/bits.Add64", "math/bits.Sub64", "internal/abi.NoEscape", "internal/bytealg.MakeNoZero"], unfollowed := true, recurses := true, named := ["math/bits.divideError", "math/bits.overflowError", "internal/strconv.uint64pow10", "math/bits.deBruijn32tab", "math/bits.deBruijn64tab"], apart := false, laid := [("math/bits.deBruijn32tab", laid_math_bits_deBruijn32tab), ("math/bits.deBruijn64tab", laid_math_bits_deBruijn64tab), ("internal/strconv.uint64pow10", laid_internal_strconv_uint64pow10)], narrowed := true }
def GroupColoursUptoSaid : Prop := groupColoursUptoRow.holds Tryz.pinned (OpenSpec.upto groupColoursSpec)

/-- 'talismanlaw05.GroupSymmetries', WHERE WHAT IT READS IS OF BULK AT MOST 1048576: true; the input reads as it did. -/
def groupSymmetriesUptoRow : OpenClaim := { program := "ytkjkjpmahgeneaagreatdoor", sum := "f04b50dcda3b8f6a956c44cbd9cfed50a559195ea610095228fc0cdb1f9d6d43", func := "talisman/talismanlaw05.GroupSymmetries", spec := "groupSymmetries", inPlace := ["math/bits.Add64", "math/bits.Sub64", "internal/abi.NoEscape", "internal/bytealg.MakeNoZero"], unfollowed := true, recurses := true, named := ["math/bits.divideError", "math/bits.overflowError", "internal/strconv.uint64pow10", "math/bits.deBruijn32tab", "math/bits.deBruijn64tab"], apart := false, laid := [("math/bits.deBruijn32tab", laid_math_bits_deBruijn32tab), ("math/bits.deBruijn64tab", laid_math_bits_deBruijn64tab), ("internal/strconv.uint64pow10", laid_internal_strconv_uint64pow10)], narrowed := true }
def GroupSymmetriesUptoSaid : Prop := groupSymmetriesUptoRow.holds Tryz.pinned (OpenSpec.upto groupSymmetriesSpec)

/-- 'talismanlaw05.GroupSquares', WHERE WHAT IT READS IS OF BULK AT MOST 1048576: true; the input reads as it did. -/
def groupSquaresUptoRow : OpenClaim := { program := "ytkjkjpmahgeneaagreatdoor", sum := "f04b50dcda3b8f6a956c44cbd9cfed50a559195ea610095228fc0cdb1f9d6d43", func := "talisman/talismanlaw05.GroupSquares", spec := "groupSquares", inPlace := ["math/bits.Add64", "math/bits.Sub64", "internal/abi.NoEscape", "internal/bytealg.MakeNoZero"], unfollowed := true, recurses := true, named := ["math/bits.divideError", "math/bits.overflowError", "internal/strconv.uint64pow10", "math/bits.deBruijn32tab", "math/bits.deBruijn64tab"], apart := false, laid := [("math/bits.deBruijn32tab", laid_math_bits_deBruijn32tab), ("math/bits.deBruijn64tab", laid_math_bits_deBruijn64tab), ("internal/strconv.uint64pow10", laid_internal_strconv_uint64pow10)], narrowed := true }
def GroupSquaresUptoSaid : Prop := groupSquaresUptoRow.holds Tryz.pinned (OpenSpec.upto groupSquaresSpec)

/-- 'talismanlaw05.GroupKeeps', WHERE WHAT IT READS IS OF BULK AT MOST 1048576: true; the input reads as it did. -/
def groupKeepsUptoRow : OpenClaim := { program := "ytkjkjpmahgeneaagreatdoor", sum := "f04b50dcda3b8f6a956c44cbd9cfed50a559195ea610095228fc0cdb1f9d6d43", func := "talisman/talismanlaw05.GroupKeeps", spec := "groupKeeps", inPlace := ["math/bits.Add64", "math/bits.Sub64", "internal/abi.NoEscape", "internal/bytealg.MakeNoZero"], unfollowed := true, recurses := true, named := ["math/bits.divideError", "math/bits.overflowError", "internal/strconv.uint64pow10", "math/bits.deBruijn32tab", "math/bits.deBruijn64tab"], apart := false, laid := [("math/bits.deBruijn32tab", laid_math_bits_deBruijn32tab), ("math/bits.deBruijn64tab", laid_math_bits_deBruijn64tab), ("internal/strconv.uint64pow10", laid_internal_strconv_uint64pow10)], narrowed := true }
def GroupKeepsUptoSaid : Prop := groupKeepsUptoRow.holds Tryz.pinned (OpenSpec.upto groupKeepsSpec)

/-- 'talismanlaw05.GroupOrbits', WHERE WHAT IT READS IS OF BULK AT MOST 1048576: true; the input reads as it did. -/
def groupOrbitsUptoRow : OpenClaim := { program := "ytkjkjpmahgeneaagreatdoor", sum := "f04b50dcda3b8f6a956c44cbd9cfed50a559195ea610095228fc0cdb1f9d6d43", func := "talisman/talismanlaw05.GroupOrbits", spec := "groupOrbits", inPlace := ["math/bits.Add64", "math/bits.Sub64", "internal/abi.NoEscape", "internal/bytealg.MakeNoZero"], unfollowed := true, recurses := true, named := ["math/bits.divideError", "math/bits.overflowError", "internal/strconv.uint64pow10", "math/bits.deBruijn32tab", "math/bits.deBruijn64tab"], apart := false, laid := [("math/bits.deBruijn32tab", laid_math_bits_deBruijn32tab), ("math/bits.deBruijn64tab", laid_math_bits_deBruijn64tab), ("internal/strconv.uint64pow10", laid_internal_strconv_uint64pow10)], narrowed := true }
def GroupOrbitsUptoSaid : Prop := groupOrbitsUptoRow.holds Tryz.pinned (OpenSpec.upto groupOrbitsSpec)

/-- 'talismanlaw05.GroupLagrange', WHERE WHAT IT READS IS OF BULK AT MOST 1048576: true; the input reads as it did. -/
def groupLagrangeUptoRow : OpenClaim := { program := "ytkjkjpmahgeneaagreatdoor", sum := "f04b50dcda3b8f6a956c44cbd9cfed50a559195ea610095228fc0cdb1f9d6d43", func := "talisman/talismanlaw05.GroupLagrange", spec := "groupLagrange", inPlace := ["math/bits.Add64", "math/bits.Sub64", "internal/abi.NoEscape", "internal/bytealg.MakeNoZero"], unfollowed := true, recurses := true, named := ["math/bits.divideError", "math/bits.overflowError", "internal/strconv.uint64pow10", "math/bits.deBruijn32tab", "math/bits.deBruijn64tab"], apart := false, laid := [("math/bits.deBruijn32tab", laid_math_bits_deBruijn32tab), ("math/bits.deBruijn64tab", laid_math_bits_deBruijn64tab), ("internal/strconv.uint64pow10", laid_internal_strconv_uint64pow10)], narrowed := true }
def GroupLagrangeUptoSaid : Prop := groupLagrangeUptoRow.holds Tryz.pinned (OpenSpec.upto groupLagrangeSpec)

/-- 'talismanlaw05.GroupActs', WHERE WHAT IT READS IS OF BULK AT MOST 1048576: true; the input reads as it did. -/
def groupActsUptoRow : OpenClaim := { program := "ytkjkjpmahgeneaagreatdoor", sum := "f04b50dcda3b8f6a956c44cbd9cfed50a559195ea610095228fc0cdb1f9d6d43", func := "talisman/talismanlaw05.GroupActs", spec := "groupActs", inPlace := ["math/bits.Add64", "math/bits.Sub64", "internal/abi.NoEscape", "internal/bytealg.MakeNoZero"], unfollowed := true, recurses := true, named := ["math/bits.divideError", "math/bits.overflowError", "internal/strconv.uint64pow10", "math/bits.deBruijn32tab", "math/bits.deBruijn64tab"], apart := false, laid := [("math/bits.deBruijn32tab", laid_math_bits_deBruijn32tab), ("math/bits.deBruijn64tab", laid_math_bits_deBruijn64tab), ("internal/strconv.uint64pow10", laid_internal_strconv_uint64pow10)], narrowed := true }
def GroupActsUptoSaid : Prop := groupActsUptoRow.holds Tryz.pinned (OpenSpec.upto groupActsSpec)

/-- 'talismanlaw05.GroupSystems', WHERE WHAT IT READS IS OF BULK AT MOST 1048576: true; the input reads as it did. -/
def groupSystemsUptoRow : OpenClaim := { program := "ytkjkjpmahgeneaagreatdoor", sum := "f04b50dcda3b8f6a956c44cbd9cfed50a559195ea610095228fc0cdb1f9d6d43", func := "talisman/talismanlaw05.GroupSystems", spec := "groupSystems", inPlace := ["math/bits.Add64", "math/bits.Sub64", "internal/abi.NoEscape", "internal/bytealg.MakeNoZero"], unfollowed := true, recurses := true, named := ["math/bits.divideError", "math/bits.overflowError", "internal/strconv.uint64pow10", "math/bits.deBruijn32tab", "math/bits.deBruijn64tab"], apart := false, laid := [("math/bits.deBruijn32tab", laid_math_bits_deBruijn32tab), ("math/bits.deBruijn64tab", laid_math_bits_deBruijn64tab), ("internal/strconv.uint64pow10", laid_internal_strconv_uint64pow10)], narrowed := true }
def GroupSystemsUptoSaid : Prop := groupSystemsUptoRow.holds Tryz.pinned (OpenSpec.upto groupSystemsSpec)

/-- 'talismanlaw05.GroupSames', WHERE WHAT IT READS IS OF BULK AT MOST 1048576: true; the input reads as it did. -/
def groupSamesUptoRow : OpenClaim := { program := "ytkjkjpmahgeneaagreatdoor", sum := "f04b50dcda3b8f6a956c44cbd9cfed50a559195ea610095228fc0cdb1f9d6d43", func := "talisman/talismanlaw05.GroupSames", spec := "groupSames", inPlace := ["math/bits.Add64", "math/bits.Sub64", "internal/abi.NoEscape", "internal/bytealg.MakeNoZero"], unfollowed := true, recurses := true, named := ["math/bits.divideError", "math/bits.overflowError", "internal/strconv.uint64pow10", "math/bits.deBruijn32tab", "math/bits.deBruijn64tab"], apart := false, laid := [("math/bits.deBruijn32tab", laid_math_bits_deBruijn32tab), ("math/bits.deBruijn64tab", laid_math_bits_deBruijn64tab), ("internal/strconv.uint64pow10", laid_internal_strconv_uint64pow10)], narrowed := true }
def GroupSamesUptoSaid : Prop := groupSamesUptoRow.holds Tryz.pinned (OpenSpec.upto groupSamesSpec)

/-- 'talismanlaw05.GroupImages', WHERE WHAT IT READS IS OF BULK AT MOST 1048576: true; the input reads as it did. -/
def groupImagesUptoRow : OpenClaim := { program := "ytkjkjpmahgeneaagreatdoor", sum := "f04b50dcda3b8f6a956c44cbd9cfed50a559195ea610095228fc0cdb1f9d6d43", func := "talisman/talismanlaw05.GroupImages", spec := "groupImages", inPlace := ["math/bits.Add64", "math/bits.Sub64", "internal/abi.NoEscape", "internal/bytealg.MakeNoZero"], unfollowed := true, recurses := true, named := ["math/bits.divideError", "math/bits.overflowError", "internal/strconv.uint64pow10", "math/bits.deBruijn32tab", "math/bits.deBruijn64tab"], apart := false, laid := [("math/bits.deBruijn32tab", laid_math_bits_deBruijn32tab), ("math/bits.deBruijn64tab", laid_math_bits_deBruijn64tab), ("internal/strconv.uint64pow10", laid_internal_strconv_uint64pow10)], narrowed := true }
def GroupImagesUptoSaid : Prop := groupImagesUptoRow.holds Tryz.pinned (OpenSpec.upto groupImagesSpec)

end Rows
end Go.Proofs.YtkjkjpmahgeneaaGreatDoor
