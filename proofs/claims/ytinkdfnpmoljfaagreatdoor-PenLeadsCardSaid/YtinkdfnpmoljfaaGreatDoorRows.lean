/-
  NARROWER THAN 'FOR EVERY INPUT', by the rows' own cells (each row's printed sentence says how): EmitRows: laid · EmitOnes: laid · EmitParts: laid · EmitKnown: laid · ShiftDoes: laid · ShiftBack: laid · ShiftGains: laid · ShiftBest: laid · PenSteps: laid · PenChanges: laid · PenLeast: laid · PenLeads: laid.
  DERIVED. THE GIVEN ROWS OF THIS SEAT. 12 by the template 'for every input the law returns true; each argument reads behind the call as it read before'; 0 by the template 'total and deterministic' (their statements: YtinkdfnpmoljfaaGreatDoorTotals.lean).
  GIVEN WITH THE SEED: the statements are not yours to turn. If you find one false, say at which input.
  Laid BY PROGRAM, IN A SANDBOX (cutbox-rows.mjs): the forced cells as the released guide's own fill.sh prints them over the translation 9fe0ad047c4a430d… (all of the seat's roots in one cut). By AI agents, Wed Nov 11 2026. No macro, syntax, notation, axiom, sorry.
-/
import Derived.Test.YtinkdfnpmoljfaaGreatDoorChecked
import GoSem.Claim
import GoSem.ClaimJoined
import GoSem.ClaimMapViews
import Derived.JoinedTies
import Derived.KernelRfl
namespace Go.Proofs.YtinkdfnpmoljfaaGreatDoor
/- THE CELL 'sum', in the pinned program and in every row, IS THE sha256 OF THE DUMP (.gsa) THAT YtinkdfnpmoljfaaGreatDoorProg.lean LOADS. Nothing in Lean hashes anything: it is a label: what it is worth is what the hold of that sum in a sandbox is worth. -/
noncomputable def Tryz.pinned : Pinned := { name := "ytinkdfnpmoljfaagreatdoor", sum := "9fe0ad047c4a430de0791a6abf01bf64eea177c5b03ff93c5b4e692b0039a0c5", checked := Tryz.checked }
namespace Rows
def none {H : Type} : Left H := { results := [], args := [] }

/- WHAT THE LISTED PACKAGE-LEVEL VARIABLES READ AS WHEN THE CALL BEGINS. Each datum BY PROGRAM (the guide's laid-datum.mjs) off the statement by which the dump's own 'gosem.cut.vars' lays the variable. In a bare row this is a premise. The card (YtinkdfnpmoljfaaGreatDoorCards.lean) ties it to the program's text. -/
def laid_math_bits_deBruijn32tab {H : Type} : DataW H := .agg [.lit (.int .u8 0), .lit (.int .u8 1), .lit (.int .u8 28), .lit (.int .u8 2), .lit (.int .u8 29), .lit (.int .u8 14), .lit (.int .u8 24), .lit (.int .u8 3), .lit (.int .u8 30), .lit (.int .u8 22), .lit (.int .u8 20), .lit (.int .u8 15), .lit (.int .u8 25), .lit (.int .u8 17), .lit (.int .u8 4), .lit (.int .u8 8), .lit (.int .u8 31), .lit (.int .u8 27), .lit (.int .u8 13), .lit (.int .u8 23), .lit (.int .u8 21), .lit (.int .u8 19), .lit (.int .u8 16), .lit (.int .u8 7), .lit (.int .u8 26), .lit (.int .u8 12), .lit (.int .u8 18), .lit (.int .u8 6), .lit (.int .u8 11), .lit (.int .u8 5), .lit (.int .u8 10), .lit (.int .u8 9)]
def laid_math_bits_deBruijn64tab {H : Type} : DataW H := .agg [.lit (.int .u8 0), .lit (.int .u8 1), .lit (.int .u8 56), .lit (.int .u8 2), .lit (.int .u8 57), .lit (.int .u8 49), .lit (.int .u8 28), .lit (.int .u8 3), .lit (.int .u8 61), .lit (.int .u8 58), .lit (.int .u8 42), .lit (.int .u8 50), .lit (.int .u8 38), .lit (.int .u8 29), .lit (.int .u8 17), .lit (.int .u8 4), .lit (.int .u8 62), .lit (.int .u8 47), .lit (.int .u8 59), .lit (.int .u8 36), .lit (.int .u8 45), .lit (.int .u8 43), .lit (.int .u8 51), .lit (.int .u8 22), .lit (.int .u8 53), .lit (.int .u8 39), .lit (.int .u8 33), .lit (.int .u8 30), .lit (.int .u8 24), .lit (.int .u8 18), .lit (.int .u8 12), .lit (.int .u8 5), .lit (.int .u8 63), .lit (.int .u8 55), .lit (.int .u8 48), .lit (.int .u8 27), .lit (.int .u8 60), .lit (.int .u8 41), .lit (.int .u8 37), .lit (.int .u8 16), .lit (.int .u8 46), .lit (.int .u8 35), .lit (.int .u8 44), .lit (.int .u8 21), .lit (.int .u8 52), .lit (.int .u8 32), .lit (.int .u8 23), .lit (.int .u8 11), .lit (.int .u8 54), .lit (.int .u8 26), .lit (.int .u8 40), .lit (.int .u8 15), .lit (.int .u8 34), .lit (.int .u8 20), .lit (.int .u8 31), .lit (.int .u8 10), .lit (.int .u8 25), .lit (.int .u8 14), .lit (.int .u8 19), .lit (.int .u8 9), .lit (.int .u8 13), .lit (.int .u8 8), .lit (.int .u8 7), .lit (.int .u8 6)]
def laid_internal_strconv_uint64pow10 {H : Type} : DataW H := .agg [.lit (.int .u64 1), .lit (.int .u64 10), .lit (.int .u64 100), .lit (.int .u64 1000), .lit (.int .u64 10000), .lit (.int .u64 100000), .lit (.int .u64 1000000), .lit (.int .u64 10000000), .lit (.int .u64 100000000), .lit (.int .u64 1000000000), .lit (.int .u64 10000000000), .lit (.int .u64 100000000000), .lit (.int .u64 1000000000000), .lit (.int .u64 10000000000000), .lit (.int .u64 100000000000000), .lit (.int .u64 1000000000000000), .lit (.int .u64 10000000000000000), .lit (.int .u64 100000000000000000), .lit (.int .u64 1000000000000000000), .lit (.int .u64 10000000000000000000)]
def laid_fenestra_color_named {H : Type} : DataW H := .agg [.lit (.int .i64 0), .lit (.int .i64 13434880), .lit (.int .i64 52480), .lit (.int .i64 13487360), .lit (.int .i64 238), .lit (.int .i64 13435085), .lit (.int .i64 52685), .lit (.int .i64 15066597), .lit (.int .i64 8355711), .lit (.int .i64 16711680), .lit (.int .i64 65280), .lit (.int .i64 16776960), .lit (.int .i64 6053119), .lit (.int .i64 16711935), .lit (.int .i64 65535), .lit (.int .i64 16777215)]
def laid_fenestra_sgr_attrs {H : Type} : DataW H := .agg [.agg [.lit (.int .i64 1), .lit (.int .i64 1), .lit (.int .i64 22)], .agg [.lit (.int .i64 2), .lit (.int .i64 2), .lit (.int .i64 22)], .agg [.lit (.int .i64 4), .lit (.int .i64 3), .lit (.int .i64 23)], .agg [.lit (.int .i64 8), .lit (.int .i64 5), .lit (.int .i64 25)], .agg [.lit (.int .i64 16), .lit (.int .i64 7), .lit (.int .i64 27)], .agg [.lit (.int .i64 32), .lit (.int .i64 8), .lit (.int .i64 28)], .agg [.lit (.int .i64 64), .lit (.int .i64 9), .lit (.int .i64 29)], .agg [.lit (.int .i64 128), .lit (.int .i64 53), .lit (.int .i64 55)]]
def laid_fenestra_width_marks {H : Type} : DataW H := .agg [.agg [.lit (.int .i64 768), .lit (.int .i64 879)], .agg [.lit (.int .i64 1155), .lit (.int .i64 1161)], .agg [.lit (.int .i64 1425), .lit (.int .i64 1469)], .agg [.lit (.int .i64 1552), .lit (.int .i64 1562)], .agg [.lit (.int .i64 1611), .lit (.int .i64 1631)], .agg [.lit (.int .i64 6832), .lit (.int .i64 6911)], .agg [.lit (.int .i64 7616), .lit (.int .i64 7679)], .agg [.lit (.int .i64 8203), .lit (.int .i64 8207)], .agg [.lit (.int .i64 8400), .lit (.int .i64 8447)], .agg [.lit (.int .i64 65024), .lit (.int .i64 65039)], .agg [.lit (.int .i64 65056), .lit (.int .i64 65071)]]
def laid_fenestra_width_wides {H : Type} : DataW H := .agg [.agg [.lit (.int .i64 4352), .lit (.int .i64 4447)], .agg [.lit (.int .i64 11904), .lit (.int .i64 12350)], .agg [.lit (.int .i64 12353), .lit (.int .i64 19903)], .agg [.lit (.int .i64 19968), .lit (.int .i64 42191)], .agg [.lit (.int .i64 44032), .lit (.int .i64 55203)], .agg [.lit (.int .i64 63744), .lit (.int .i64 64255)], .agg [.lit (.int .i64 65072), .lit (.int .i64 65135)], .agg [.lit (.int .i64 65280), .lit (.int .i64 65376)], .agg [.lit (.int .i64 65504), .lit (.int .i64 65510)], .agg [.lit (.int .i64 127744), .lit (.int .i64 128591)], .agg [.lit (.int .i64 128640), .lit (.int .i64 128767)], .agg [.lit (.int .i64 129280), .lit (.int .i64 129535)], .agg [.lit (.int .i64 131072), .lit (.int .i64 262141)]]

/-- 'fenestralaw11.EmitRows': WHATEVER THE INPUT: true; the input reads as it did. -/
def emitRowsSpec : ChangeSpec := { name := "emitRows", fn := fun _ => fun
  | [d1, d2, d3, d4] => { results := [.lit (.bool true)], args := [d1, d2, d3, d4] }
  | _ => none }
def emitRowsRow : OpenClaim := { program := "ytinkdfnpmoljfaagreatdoor", sum := "9fe0ad047c4a430de0791a6abf01bf64eea177c5b03ff93c5b4e692b0039a0c5", func := "fenestra/fenestralaw11.EmitRows", spec := "emitRows", inPlace := ["internal/abi.NoEscape", "internal/bytealg.MakeNoZero"], unfollowed := true, recurses := true, named := ["fenestra/width.marks", "fenestra/width.wides", "fenestra/color.named", "internal/strconv.uint64pow10", "math/bits.deBruijn32tab", "math/bits.deBruijn64tab", "fenestra/sgr.attrs"], apart := false, laid := [("math/bits.deBruijn32tab", laid_math_bits_deBruijn32tab), ("math/bits.deBruijn64tab", laid_math_bits_deBruijn64tab), ("internal/strconv.uint64pow10", laid_internal_strconv_uint64pow10), ("fenestra/color.named", laid_fenestra_color_named), ("fenestra/sgr.attrs", laid_fenestra_sgr_attrs), ("fenestra/width.marks", laid_fenestra_width_marks), ("fenestra/width.wides", laid_fenestra_width_wides)] }
def EmitRowsSaid : Prop := emitRowsRow.holds Tryz.pinned (OpenSpec.ofChange emitRowsSpec)

/-- ITS FALSE NEIGHBOUR: 'it returns false'. Refute it at one input. -/
def emitRowsWrong : ChangeSpec := { name := "emitRows", fn := fun _ => fun
  | [d1, d2, d3, d4] => { results := [.lit (.bool false)], args := [d1, d2, d3, d4] }
  | _ => none }
def EmitRowsWrongFalsely : Prop := emitRowsRow.holds Tryz.pinned (OpenSpec.ofChange emitRowsWrong)

/-- 'fenestralaw11.EmitOnes': WHATEVER THE INPUT: true; the input reads as it did. -/
def emitOnesSpec : ChangeSpec := { name := "emitOnes", fn := fun _ => fun
  | [d1, d2, d3] => { results := [.lit (.bool true)], args := [d1, d2, d3] }
  | _ => none }
def emitOnesRow : OpenClaim := { program := "ytinkdfnpmoljfaagreatdoor", sum := "9fe0ad047c4a430de0791a6abf01bf64eea177c5b03ff93c5b4e692b0039a0c5", func := "fenestra/fenestralaw11.EmitOnes", spec := "emitOnes", inPlace := ["internal/abi.NoEscape", "internal/bytealg.MakeNoZero"], unfollowed := true, recurses := true, named := ["fenestra/width.marks", "fenestra/width.wides", "fenestra/color.named", "internal/strconv.uint64pow10", "math/bits.deBruijn32tab", "math/bits.deBruijn64tab", "fenestra/sgr.attrs"], apart := false, laid := [("math/bits.deBruijn32tab", laid_math_bits_deBruijn32tab), ("math/bits.deBruijn64tab", laid_math_bits_deBruijn64tab), ("internal/strconv.uint64pow10", laid_internal_strconv_uint64pow10), ("fenestra/color.named", laid_fenestra_color_named), ("fenestra/sgr.attrs", laid_fenestra_sgr_attrs), ("fenestra/width.marks", laid_fenestra_width_marks), ("fenestra/width.wides", laid_fenestra_width_wides)] }
def EmitOnesSaid : Prop := emitOnesRow.holds Tryz.pinned (OpenSpec.ofChange emitOnesSpec)

/-- ITS FALSE NEIGHBOUR: 'it returns false'. Refute it at one input. -/
def emitOnesWrong : ChangeSpec := { name := "emitOnes", fn := fun _ => fun
  | [d1, d2, d3] => { results := [.lit (.bool false)], args := [d1, d2, d3] }
  | _ => none }
def EmitOnesWrongFalsely : Prop := emitOnesRow.holds Tryz.pinned (OpenSpec.ofChange emitOnesWrong)

/-- 'fenestralaw11.EmitParts': WHATEVER THE INPUT: true; the input reads as it did. -/
def emitPartsSpec : ChangeSpec := { name := "emitParts", fn := fun _ => fun
  | [d1, d2] => { results := [.lit (.bool true)], args := [d1, d2] }
  | _ => none }
def emitPartsRow : OpenClaim := { program := "ytinkdfnpmoljfaagreatdoor", sum := "9fe0ad047c4a430de0791a6abf01bf64eea177c5b03ff93c5b4e692b0039a0c5", func := "fenestra/fenestralaw11.EmitParts", spec := "emitParts", inPlace := ["internal/abi.NoEscape", "internal/bytealg.MakeNoZero"], unfollowed := true, recurses := true, named := ["fenestra/width.marks", "fenestra/width.wides", "fenestra/color.named", "internal/strconv.uint64pow10", "math/bits.deBruijn32tab", "math/bits.deBruijn64tab", "fenestra/sgr.attrs"], apart := false, laid := [("math/bits.deBruijn32tab", laid_math_bits_deBruijn32tab), ("math/bits.deBruijn64tab", laid_math_bits_deBruijn64tab), ("internal/strconv.uint64pow10", laid_internal_strconv_uint64pow10), ("fenestra/color.named", laid_fenestra_color_named), ("fenestra/sgr.attrs", laid_fenestra_sgr_attrs), ("fenestra/width.marks", laid_fenestra_width_marks), ("fenestra/width.wides", laid_fenestra_width_wides)] }
def EmitPartsSaid : Prop := emitPartsRow.holds Tryz.pinned (OpenSpec.ofChange emitPartsSpec)

/-- ITS FALSE NEIGHBOUR: 'it returns false'. Refute it at one input. -/
def emitPartsWrong : ChangeSpec := { name := "emitParts", fn := fun _ => fun
  | [d1, d2] => { results := [.lit (.bool false)], args := [d1, d2] }
  | _ => none }
def EmitPartsWrongFalsely : Prop := emitPartsRow.holds Tryz.pinned (OpenSpec.ofChange emitPartsWrong)

/-- 'fenestralaw11.EmitKnown': WHATEVER THE INPUT: true; the input reads as it did. -/
def emitKnownSpec : ChangeSpec := { name := "emitKnown", fn := fun _ => fun
  | [] => { results := [.lit (.bool true)], args := [] }
  | _ => none }
def emitKnownRow : OpenClaim := { program := "ytinkdfnpmoljfaagreatdoor", sum := "9fe0ad047c4a430de0791a6abf01bf64eea177c5b03ff93c5b4e692b0039a0c5", func := "fenestra/fenestralaw11.EmitKnown", spec := "emitKnown", inPlace := ["internal/abi.NoEscape", "internal/bytealg.MakeNoZero"], unfollowed := true, recurses := true, named := ["fenestra/width.marks", "fenestra/width.wides", "fenestra/color.named", "internal/strconv.uint64pow10", "math/bits.deBruijn32tab", "math/bits.deBruijn64tab", "fenestra/sgr.attrs"], apart := false, laid := [("math/bits.deBruijn32tab", laid_math_bits_deBruijn32tab), ("math/bits.deBruijn64tab", laid_math_bits_deBruijn64tab), ("internal/strconv.uint64pow10", laid_internal_strconv_uint64pow10), ("fenestra/color.named", laid_fenestra_color_named), ("fenestra/sgr.attrs", laid_fenestra_sgr_attrs), ("fenestra/width.marks", laid_fenestra_width_marks), ("fenestra/width.wides", laid_fenestra_width_wides)] }
def EmitKnownSaid : Prop := emitKnownRow.holds Tryz.pinned (OpenSpec.ofChange emitKnownSpec)

/-- ITS FALSE NEIGHBOUR: 'it returns false'. Refute it at one input. -/
def emitKnownWrong : ChangeSpec := { name := "emitKnown", fn := fun _ => fun
  | [] => { results := [.lit (.bool false)], args := [] }
  | _ => none }
def EmitKnownWrongFalsely : Prop := emitKnownRow.holds Tryz.pinned (OpenSpec.ofChange emitKnownWrong)

/-- 'fenestralaw28.ShiftDoes': WHATEVER THE INPUT: true; the input reads as it did. -/
def shiftDoesSpec : ChangeSpec := { name := "shiftDoes", fn := fun _ => fun
  | [d1, d2, d3] => { results := [.lit (.bool true)], args := [d1, d2, d3] }
  | _ => none }
def shiftDoesRow : OpenClaim := { program := "ytinkdfnpmoljfaagreatdoor", sum := "9fe0ad047c4a430de0791a6abf01bf64eea177c5b03ff93c5b4e692b0039a0c5", func := "fenestra/fenestralaw28.ShiftDoes", spec := "shiftDoes", inPlace := ["internal/abi.NoEscape", "internal/bytealg.MakeNoZero"], unfollowed := true, recurses := true, named := ["fenestra/width.marks", "fenestra/width.wides", "fenestra/color.named", "internal/strconv.uint64pow10", "math/bits.deBruijn32tab", "math/bits.deBruijn64tab"], apart := false, laid := [("math/bits.deBruijn32tab", laid_math_bits_deBruijn32tab), ("math/bits.deBruijn64tab", laid_math_bits_deBruijn64tab), ("internal/strconv.uint64pow10", laid_internal_strconv_uint64pow10), ("fenestra/color.named", laid_fenestra_color_named), ("fenestra/width.marks", laid_fenestra_width_marks), ("fenestra/width.wides", laid_fenestra_width_wides)] }
def ShiftDoesSaid : Prop := shiftDoesRow.holds Tryz.pinned (OpenSpec.ofChange shiftDoesSpec)

/-- ITS FALSE NEIGHBOUR: 'it returns false'. Refute it at one input. -/
def shiftDoesWrong : ChangeSpec := { name := "shiftDoes", fn := fun _ => fun
  | [d1, d2, d3] => { results := [.lit (.bool false)], args := [d1, d2, d3] }
  | _ => none }
def ShiftDoesWrongFalsely : Prop := shiftDoesRow.holds Tryz.pinned (OpenSpec.ofChange shiftDoesWrong)

/-- 'fenestralaw28.ShiftBack': WHATEVER THE INPUT: true; the input reads as it did. -/
def shiftBackSpec : ChangeSpec := { name := "shiftBack", fn := fun _ => fun
  | [d1, d2] => { results := [.lit (.bool true)], args := [d1, d2] }
  | _ => none }
def shiftBackRow : OpenClaim := { program := "ytinkdfnpmoljfaagreatdoor", sum := "9fe0ad047c4a430de0791a6abf01bf64eea177c5b03ff93c5b4e692b0039a0c5", func := "fenestra/fenestralaw28.ShiftBack", spec := "shiftBack", inPlace := ["internal/abi.NoEscape", "internal/bytealg.MakeNoZero"], unfollowed := true, recurses := true, named := ["fenestra/width.marks", "fenestra/width.wides", "fenestra/color.named", "internal/strconv.uint64pow10", "math/bits.deBruijn32tab", "math/bits.deBruijn64tab"], apart := false, laid := [("math/bits.deBruijn32tab", laid_math_bits_deBruijn32tab), ("math/bits.deBruijn64tab", laid_math_bits_deBruijn64tab), ("internal/strconv.uint64pow10", laid_internal_strconv_uint64pow10), ("fenestra/color.named", laid_fenestra_color_named), ("fenestra/width.marks", laid_fenestra_width_marks), ("fenestra/width.wides", laid_fenestra_width_wides)] }
def ShiftBackSaid : Prop := shiftBackRow.holds Tryz.pinned (OpenSpec.ofChange shiftBackSpec)

/-- ITS FALSE NEIGHBOUR: 'it returns false'. Refute it at one input. -/
def shiftBackWrong : ChangeSpec := { name := "shiftBack", fn := fun _ => fun
  | [d1, d2] => { results := [.lit (.bool false)], args := [d1, d2] }
  | _ => none }
def ShiftBackWrongFalsely : Prop := shiftBackRow.holds Tryz.pinned (OpenSpec.ofChange shiftBackWrong)

/-- 'fenestralaw28.ShiftGains': WHATEVER THE INPUT: true; the input reads as it did. -/
def shiftGainsSpec : ChangeSpec := { name := "shiftGains", fn := fun _ => fun
  | [d1, d2, d3] => { results := [.lit (.bool true)], args := [d1, d2, d3] }
  | _ => none }
def shiftGainsRow : OpenClaim := { program := "ytinkdfnpmoljfaagreatdoor", sum := "9fe0ad047c4a430de0791a6abf01bf64eea177c5b03ff93c5b4e692b0039a0c5", func := "fenestra/fenestralaw28.ShiftGains", spec := "shiftGains", inPlace := ["internal/abi.NoEscape", "internal/bytealg.MakeNoZero"], unfollowed := true, recurses := true, named := ["fenestra/width.marks", "fenestra/width.wides", "fenestra/color.named", "internal/strconv.uint64pow10", "math/bits.deBruijn32tab", "math/bits.deBruijn64tab"], apart := false, laid := [("math/bits.deBruijn32tab", laid_math_bits_deBruijn32tab), ("math/bits.deBruijn64tab", laid_math_bits_deBruijn64tab), ("internal/strconv.uint64pow10", laid_internal_strconv_uint64pow10), ("fenestra/color.named", laid_fenestra_color_named), ("fenestra/width.marks", laid_fenestra_width_marks), ("fenestra/width.wides", laid_fenestra_width_wides)] }
def ShiftGainsSaid : Prop := shiftGainsRow.holds Tryz.pinned (OpenSpec.ofChange shiftGainsSpec)

/-- ITS FALSE NEIGHBOUR: 'it returns false'. Refute it at one input. -/
def shiftGainsWrong : ChangeSpec := { name := "shiftGains", fn := fun _ => fun
  | [d1, d2, d3] => { results := [.lit (.bool false)], args := [d1, d2, d3] }
  | _ => none }
def ShiftGainsWrongFalsely : Prop := shiftGainsRow.holds Tryz.pinned (OpenSpec.ofChange shiftGainsWrong)

/-- 'fenestralaw28.ShiftBest': WHATEVER THE INPUT: true; the input reads as it did. -/
def shiftBestSpec : ChangeSpec := { name := "shiftBest", fn := fun _ => fun
  | [d1, d2, d3] => { results := [.lit (.bool true)], args := [d1, d2, d3] }
  | _ => none }
def shiftBestRow : OpenClaim := { program := "ytinkdfnpmoljfaagreatdoor", sum := "9fe0ad047c4a430de0791a6abf01bf64eea177c5b03ff93c5b4e692b0039a0c5", func := "fenestra/fenestralaw28.ShiftBest", spec := "shiftBest", inPlace := ["internal/abi.NoEscape", "internal/bytealg.MakeNoZero"], unfollowed := true, recurses := true, named := ["fenestra/width.marks", "fenestra/width.wides", "fenestra/color.named", "internal/strconv.uint64pow10", "math/bits.deBruijn32tab", "math/bits.deBruijn64tab"], apart := false, laid := [("math/bits.deBruijn32tab", laid_math_bits_deBruijn32tab), ("math/bits.deBruijn64tab", laid_math_bits_deBruijn64tab), ("internal/strconv.uint64pow10", laid_internal_strconv_uint64pow10), ("fenestra/color.named", laid_fenestra_color_named), ("fenestra/width.marks", laid_fenestra_width_marks), ("fenestra/width.wides", laid_fenestra_width_wides)] }
def ShiftBestSaid : Prop := shiftBestRow.holds Tryz.pinned (OpenSpec.ofChange shiftBestSpec)

/-- ITS FALSE NEIGHBOUR: 'it returns false'. Refute it at one input. -/
def shiftBestWrong : ChangeSpec := { name := "shiftBest", fn := fun _ => fun
  | [d1, d2, d3] => { results := [.lit (.bool false)], args := [d1, d2, d3] }
  | _ => none }
def ShiftBestWrongFalsely : Prop := shiftBestRow.holds Tryz.pinned (OpenSpec.ofChange shiftBestWrong)

/-- 'fenestralaw26.PenSteps': WHATEVER THE INPUT: true; the input reads as it did. -/
def penStepsSpec : ChangeSpec := { name := "penSteps", fn := fun _ => fun
  | [d1, d2] => { results := [.lit (.bool true)], args := [d1, d2] }
  | _ => none }
def penStepsRow : OpenClaim := { program := "ytinkdfnpmoljfaagreatdoor", sum := "9fe0ad047c4a430de0791a6abf01bf64eea177c5b03ff93c5b4e692b0039a0c5", func := "fenestra/fenestralaw26.PenSteps", spec := "penSteps", inPlace := ["internal/abi.NoEscape", "internal/bytealg.MakeNoZero"], unfollowed := true, recurses := true, named := ["fenestra/width.marks", "fenestra/width.wides", "fenestra/color.named", "internal/strconv.uint64pow10", "math/bits.deBruijn32tab", "math/bits.deBruijn64tab", "fenestra/sgr.attrs"], apart := false, laid := [("math/bits.deBruijn32tab", laid_math_bits_deBruijn32tab), ("math/bits.deBruijn64tab", laid_math_bits_deBruijn64tab), ("internal/strconv.uint64pow10", laid_internal_strconv_uint64pow10), ("fenestra/color.named", laid_fenestra_color_named), ("fenestra/sgr.attrs", laid_fenestra_sgr_attrs), ("fenestra/width.marks", laid_fenestra_width_marks), ("fenestra/width.wides", laid_fenestra_width_wides)] }
def PenStepsSaid : Prop := penStepsRow.holds Tryz.pinned (OpenSpec.ofChange penStepsSpec)

/-- ITS FALSE NEIGHBOUR: 'it returns false'. Refute it at one input. -/
def penStepsWrong : ChangeSpec := { name := "penSteps", fn := fun _ => fun
  | [d1, d2] => { results := [.lit (.bool false)], args := [d1, d2] }
  | _ => none }
def PenStepsWrongFalsely : Prop := penStepsRow.holds Tryz.pinned (OpenSpec.ofChange penStepsWrong)

/-- 'fenestralaw26.PenChanges': WHATEVER THE INPUT: true; the input reads as it did. -/
def penChangesSpec : ChangeSpec := { name := "penChanges", fn := fun _ => fun
  | [d1, d2] => { results := [.lit (.bool true)], args := [d1, d2] }
  | _ => none }
def penChangesRow : OpenClaim := { program := "ytinkdfnpmoljfaagreatdoor", sum := "9fe0ad047c4a430de0791a6abf01bf64eea177c5b03ff93c5b4e692b0039a0c5", func := "fenestra/fenestralaw26.PenChanges", spec := "penChanges", inPlace := ["internal/abi.NoEscape", "internal/bytealg.MakeNoZero"], unfollowed := true, recurses := true, named := ["fenestra/width.marks", "fenestra/width.wides", "fenestra/color.named", "internal/strconv.uint64pow10", "math/bits.deBruijn32tab", "math/bits.deBruijn64tab", "fenestra/sgr.attrs"], apart := false, laid := [("math/bits.deBruijn32tab", laid_math_bits_deBruijn32tab), ("math/bits.deBruijn64tab", laid_math_bits_deBruijn64tab), ("internal/strconv.uint64pow10", laid_internal_strconv_uint64pow10), ("fenestra/color.named", laid_fenestra_color_named), ("fenestra/sgr.attrs", laid_fenestra_sgr_attrs), ("fenestra/width.marks", laid_fenestra_width_marks), ("fenestra/width.wides", laid_fenestra_width_wides)] }
def PenChangesSaid : Prop := penChangesRow.holds Tryz.pinned (OpenSpec.ofChange penChangesSpec)

/-- ITS FALSE NEIGHBOUR: 'it returns false'. Refute it at one input. -/
def penChangesWrong : ChangeSpec := { name := "penChanges", fn := fun _ => fun
  | [d1, d2] => { results := [.lit (.bool false)], args := [d1, d2] }
  | _ => none }
def PenChangesWrongFalsely : Prop := penChangesRow.holds Tryz.pinned (OpenSpec.ofChange penChangesWrong)

/-- 'fenestralaw26.PenLeast': WHATEVER THE INPUT: true; the input reads as it did. -/
def penLeastSpec : ChangeSpec := { name := "penLeast", fn := fun _ => fun
  | [d1, d2] => { results := [.lit (.bool true)], args := [d1, d2] }
  | _ => none }
def penLeastRow : OpenClaim := { program := "ytinkdfnpmoljfaagreatdoor", sum := "9fe0ad047c4a430de0791a6abf01bf64eea177c5b03ff93c5b4e692b0039a0c5", func := "fenestra/fenestralaw26.PenLeast", spec := "penLeast", inPlace := ["internal/abi.NoEscape", "internal/bytealg.MakeNoZero"], unfollowed := true, recurses := true, named := ["fenestra/width.marks", "fenestra/width.wides", "fenestra/color.named", "internal/strconv.uint64pow10", "math/bits.deBruijn32tab", "math/bits.deBruijn64tab", "fenestra/sgr.attrs"], apart := false, laid := [("math/bits.deBruijn32tab", laid_math_bits_deBruijn32tab), ("math/bits.deBruijn64tab", laid_math_bits_deBruijn64tab), ("internal/strconv.uint64pow10", laid_internal_strconv_uint64pow10), ("fenestra/color.named", laid_fenestra_color_named), ("fenestra/sgr.attrs", laid_fenestra_sgr_attrs), ("fenestra/width.marks", laid_fenestra_width_marks), ("fenestra/width.wides", laid_fenestra_width_wides)] }
def PenLeastSaid : Prop := penLeastRow.holds Tryz.pinned (OpenSpec.ofChange penLeastSpec)

/-- ITS FALSE NEIGHBOUR: 'it returns false'. Refute it at one input. -/
def penLeastWrong : ChangeSpec := { name := "penLeast", fn := fun _ => fun
  | [d1, d2] => { results := [.lit (.bool false)], args := [d1, d2] }
  | _ => none }
def PenLeastWrongFalsely : Prop := penLeastRow.holds Tryz.pinned (OpenSpec.ofChange penLeastWrong)

/-- 'fenestralaw26.PenLeads': WHATEVER THE INPUT: true; the input reads as it did. -/
def penLeadsSpec : ChangeSpec := { name := "penLeads", fn := fun _ => fun
  | [d1, d2, d3] => { results := [.lit (.bool true)], args := [d1, d2, d3] }
  | _ => none }
def penLeadsRow : OpenClaim := { program := "ytinkdfnpmoljfaagreatdoor", sum := "9fe0ad047c4a430de0791a6abf01bf64eea177c5b03ff93c5b4e692b0039a0c5", func := "fenestra/fenestralaw26.PenLeads", spec := "penLeads", inPlace := ["internal/abi.NoEscape", "internal/bytealg.MakeNoZero"], unfollowed := true, recurses := true, named := ["fenestra/width.marks", "fenestra/width.wides", "fenestra/color.named", "internal/strconv.uint64pow10", "math/bits.deBruijn32tab", "math/bits.deBruijn64tab", "fenestra/sgr.attrs"], apart := false, laid := [("math/bits.deBruijn32tab", laid_math_bits_deBruijn32tab), ("math/bits.deBruijn64tab", laid_math_bits_deBruijn64tab), ("internal/strconv.uint64pow10", laid_internal_strconv_uint64pow10), ("fenestra/color.named", laid_fenestra_color_named), ("fenestra/sgr.attrs", laid_fenestra_sgr_attrs), ("fenestra/width.marks", laid_fenestra_width_marks), ("fenestra/width.wides", laid_fenestra_width_wides)] }
def PenLeadsSaid : Prop := penLeadsRow.holds Tryz.pinned (OpenSpec.ofChange penLeadsSpec)

/-- ITS FALSE NEIGHBOUR: 'it returns false'. Refute it at one input. -/
def penLeadsWrong : ChangeSpec := { name := "penLeads", fn := fun _ => fun
  | [d1, d2, d3] => { results := [.lit (.bool false)], args := [d1, d2, d3] }
  | _ => none }
def PenLeadsWrongFalsely : Prop := penLeadsRow.holds Tryz.pinned (OpenSpec.ofChange penLeadsWrong)

/- THE SECOND FORM. 'bulk': how many values and letters a reading holds, each counted each time it is reached (what is shared counts as often as it is met; a slice's spare places count too). A statement '..UptoSaid' is the law's where the arguments, and the package variables that the reading takes, are together of bulk at most 1048576: NARROWER than '..Said'. Prove '..Said' where nothing that the law and all that it calls make is longer than what came in: it says more and counts as full. Else prove '..UptoSaid'. A law counts once. -/
mutual
def uptoBulk {H : Type} : DataW H → Nat
  | .lit (.string bytes) => bytes.length + 1
  | .lit _ => 1
  | .nil => 1
  | .ptr d => uptoBulk d + 1
  | .slice elems spare => uptoBulkAll elems + uptoBulkAll spare + 1
  | .agg parts => uptoBulkAll parts + 1
  | .iface _ d => uptoBulk d + 1
  | .map entries => uptoBulkEntries entries + 1
  | .held _ => 1
def uptoBulkAll {H : Type} : List (DataW H) → Nat
  | [] => 0
  | d :: r => uptoBulk d + uptoBulkAll r
def uptoBulkEntries {H : Type} : List (Lit × DataW H) → Nat
  | [] => 0
  | x :: r => uptoBulkEntry x + uptoBulkEntries r
def uptoBulkEntry {H : Type} : Lit × DataW H → Nat
  | (.string bytes, d) => bytes.length + uptoBulk d + 1
  | (_, d) => uptoBulk d + 1
 end
def uptoSmall : (H : Type) → List (DataW H) → Bool := fun _ ds => decide (uptoBulkAll ds ≤ 1048576)
def OpenSpec.upto (s : _root_.Go.ChangeSpec) : _root_.Go.OpenSpec := { _root_.Go.OpenSpec.ofChange s with cond := some uptoSmall }

/-- 'fenestralaw11.EmitRows', WHERE WHAT IT READS IS OF BULK AT MOST 1048576: true; the input reads as it did. -/
def emitRowsUptoRow : OpenClaim := { program := "ytinkdfnpmoljfaagreatdoor", sum := "9fe0ad047c4a430de0791a6abf01bf64eea177c5b03ff93c5b4e692b0039a0c5", func := "fenestra/fenestralaw11.EmitRows", spec := "emitRows", inPlace := ["internal/abi.NoEscape", "internal/bytealg.MakeNoZero"], unfollowed := true, recurses := true, named := ["fenestra/width.marks", "fenestra/width.wides", "fenestra/color.named", "internal/strconv.uint64pow10", "math/bits.deBruijn32tab", "math/bits.deBruijn64tab", "fenestra/sgr.attrs"], apart := false, laid := [("math/bits.deBruijn32tab", laid_math_bits_deBruijn32tab), ("math/bits.deBruijn64tab", laid_math_bits_deBruijn64tab), ("internal/strconv.uint64pow10", laid_internal_strconv_uint64pow10), ("fenestra/color.named", laid_fenestra_color_named), ("fenestra/sgr.attrs", laid_fenestra_sgr_attrs), ("fenestra/width.marks", laid_fenestra_width_marks), ("fenestra/width.wides", laid_fenestra_width_wides)], narrowed := true }
def EmitRowsUptoSaid : Prop := emitRowsUptoRow.holds Tryz.pinned (OpenSpec.upto emitRowsSpec)

/-- 'fenestralaw11.EmitOnes', WHERE WHAT IT READS IS OF BULK AT MOST 1048576: true; the input reads as it did. -/
def emitOnesUptoRow : OpenClaim := { program := "ytinkdfnpmoljfaagreatdoor", sum := "9fe0ad047c4a430de0791a6abf01bf64eea177c5b03ff93c5b4e692b0039a0c5", func := "fenestra/fenestralaw11.EmitOnes", spec := "emitOnes", inPlace := ["internal/abi.NoEscape", "internal/bytealg.MakeNoZero"], unfollowed := true, recurses := true, named := ["fenestra/width.marks", "fenestra/width.wides", "fenestra/color.named", "internal/strconv.uint64pow10", "math/bits.deBruijn32tab", "math/bits.deBruijn64tab", "fenestra/sgr.attrs"], apart := false, laid := [("math/bits.deBruijn32tab", laid_math_bits_deBruijn32tab), ("math/bits.deBruijn64tab", laid_math_bits_deBruijn64tab), ("internal/strconv.uint64pow10", laid_internal_strconv_uint64pow10), ("fenestra/color.named", laid_fenestra_color_named), ("fenestra/sgr.attrs", laid_fenestra_sgr_attrs), ("fenestra/width.marks", laid_fenestra_width_marks), ("fenestra/width.wides", laid_fenestra_width_wides)], narrowed := true }
def EmitOnesUptoSaid : Prop := emitOnesUptoRow.holds Tryz.pinned (OpenSpec.upto emitOnesSpec)

/-- 'fenestralaw11.EmitParts', WHERE WHAT IT READS IS OF BULK AT MOST 1048576: true; the input reads as it did. -/
def emitPartsUptoRow : OpenClaim := { program := "ytinkdfnpmoljfaagreatdoor", sum := "9fe0ad047c4a430de0791a6abf01bf64eea177c5b03ff93c5b4e692b0039a0c5", func := "fenestra/fenestralaw11.EmitParts", spec := "emitParts", inPlace := ["internal/abi.NoEscape", "internal/bytealg.MakeNoZero"], unfollowed := true, recurses := true, named := ["fenestra/width.marks", "fenestra/width.wides", "fenestra/color.named", "internal/strconv.uint64pow10", "math/bits.deBruijn32tab", "math/bits.deBruijn64tab", "fenestra/sgr.attrs"], apart := false, laid := [("math/bits.deBruijn32tab", laid_math_bits_deBruijn32tab), ("math/bits.deBruijn64tab", laid_math_bits_deBruijn64tab), ("internal/strconv.uint64pow10", laid_internal_strconv_uint64pow10), ("fenestra/color.named", laid_fenestra_color_named), ("fenestra/sgr.attrs", laid_fenestra_sgr_attrs), ("fenestra/width.marks", laid_fenestra_width_marks), ("fenestra/width.wides", laid_fenestra_width_wides)], narrowed := true }
def EmitPartsUptoSaid : Prop := emitPartsUptoRow.holds Tryz.pinned (OpenSpec.upto emitPartsSpec)

/-- 'fenestralaw11.EmitKnown', WHERE WHAT IT READS IS OF BULK AT MOST 1048576: true; the input reads as it did. -/
def emitKnownUptoRow : OpenClaim := { program := "ytinkdfnpmoljfaagreatdoor", sum := "9fe0ad047c4a430de0791a6abf01bf64eea177c5b03ff93c5b4e692b0039a0c5", func := "fenestra/fenestralaw11.EmitKnown", spec := "emitKnown", inPlace := ["internal/abi.NoEscape", "internal/bytealg.MakeNoZero"], unfollowed := true, recurses := true, named := ["fenestra/width.marks", "fenestra/width.wides", "fenestra/color.named", "internal/strconv.uint64pow10", "math/bits.deBruijn32tab", "math/bits.deBruijn64tab", "fenestra/sgr.attrs"], apart := false, laid := [("math/bits.deBruijn32tab", laid_math_bits_deBruijn32tab), ("math/bits.deBruijn64tab", laid_math_bits_deBruijn64tab), ("internal/strconv.uint64pow10", laid_internal_strconv_uint64pow10), ("fenestra/color.named", laid_fenestra_color_named), ("fenestra/sgr.attrs", laid_fenestra_sgr_attrs), ("fenestra/width.marks", laid_fenestra_width_marks), ("fenestra/width.wides", laid_fenestra_width_wides)], narrowed := true }
def EmitKnownUptoSaid : Prop := emitKnownUptoRow.holds Tryz.pinned (OpenSpec.upto emitKnownSpec)

/-- 'fenestralaw28.ShiftDoes', WHERE WHAT IT READS IS OF BULK AT MOST 1048576: true; the input reads as it did. -/
def shiftDoesUptoRow : OpenClaim := { program := "ytinkdfnpmoljfaagreatdoor", sum := "9fe0ad047c4a430de0791a6abf01bf64eea177c5b03ff93c5b4e692b0039a0c5", func := "fenestra/fenestralaw28.ShiftDoes", spec := "shiftDoes", inPlace := ["internal/abi.NoEscape", "internal/bytealg.MakeNoZero"], unfollowed := true, recurses := true, named := ["fenestra/width.marks", "fenestra/width.wides", "fenestra/color.named", "internal/strconv.uint64pow10", "math/bits.deBruijn32tab", "math/bits.deBruijn64tab"], apart := false, laid := [("math/bits.deBruijn32tab", laid_math_bits_deBruijn32tab), ("math/bits.deBruijn64tab", laid_math_bits_deBruijn64tab), ("internal/strconv.uint64pow10", laid_internal_strconv_uint64pow10), ("fenestra/color.named", laid_fenestra_color_named), ("fenestra/width.marks", laid_fenestra_width_marks), ("fenestra/width.wides", laid_fenestra_width_wides)], narrowed := true }
def ShiftDoesUptoSaid : Prop := shiftDoesUptoRow.holds Tryz.pinned (OpenSpec.upto shiftDoesSpec)

/-- 'fenestralaw28.ShiftBack', WHERE WHAT IT READS IS OF BULK AT MOST 1048576: true; the input reads as it did. -/
def shiftBackUptoRow : OpenClaim := { program := "ytinkdfnpmoljfaagreatdoor", sum := "9fe0ad047c4a430de0791a6abf01bf64eea177c5b03ff93c5b4e692b0039a0c5", func := "fenestra/fenestralaw28.ShiftBack", spec := "shiftBack", inPlace := ["internal/abi.NoEscape", "internal/bytealg.MakeNoZero"], unfollowed := true, recurses := true, named := ["fenestra/width.marks", "fenestra/width.wides", "fenestra/color.named", "internal/strconv.uint64pow10", "math/bits.deBruijn32tab", "math/bits.deBruijn64tab"], apart := false, laid := [("math/bits.deBruijn32tab", laid_math_bits_deBruijn32tab), ("math/bits.deBruijn64tab", laid_math_bits_deBruijn64tab), ("internal/strconv.uint64pow10", laid_internal_strconv_uint64pow10), ("fenestra/color.named", laid_fenestra_color_named), ("fenestra/width.marks", laid_fenestra_width_marks), ("fenestra/width.wides", laid_fenestra_width_wides)], narrowed := true }
def ShiftBackUptoSaid : Prop := shiftBackUptoRow.holds Tryz.pinned (OpenSpec.upto shiftBackSpec)

/-- 'fenestralaw28.ShiftGains', WHERE WHAT IT READS IS OF BULK AT MOST 1048576: true; the input reads as it did. -/
def shiftGainsUptoRow : OpenClaim := { program := "ytinkdfnpmoljfaagreatdoor", sum := "9fe0ad047c4a430de0791a6abf01bf64eea177c5b03ff93c5b4e692b0039a0c5", func := "fenestra/fenestralaw28.ShiftGains", spec := "shiftGains", inPlace := ["internal/abi.NoEscape", "internal/bytealg.MakeNoZero"], unfollowed := true, recurses := true, named := ["fenestra/width.marks", "fenestra/width.wides", "fenestra/color.named", "internal/strconv.uint64pow10", "math/bits.deBruijn32tab", "math/bits.deBruijn64tab"], apart := false, laid := [("math/bits.deBruijn32tab", laid_math_bits_deBruijn32tab), ("math/bits.deBruijn64tab", laid_math_bits_deBruijn64tab), ("internal/strconv.uint64pow10", laid_internal_strconv_uint64pow10), ("fenestra/color.named", laid_fenestra_color_named), ("fenestra/width.marks", laid_fenestra_width_marks), ("fenestra/width.wides", laid_fenestra_width_wides)], narrowed := true }
def ShiftGainsUptoSaid : Prop := shiftGainsUptoRow.holds Tryz.pinned (OpenSpec.upto shiftGainsSpec)

/-- 'fenestralaw28.ShiftBest', WHERE WHAT IT READS IS OF BULK AT MOST 1048576: true; the input reads as it did. -/
def shiftBestUptoRow : OpenClaim := { program := "ytinkdfnpmoljfaagreatdoor", sum := "9fe0ad047c4a430de0791a6abf01bf64eea177c5b03ff93c5b4e692b0039a0c5", func := "fenestra/fenestralaw28.ShiftBest", spec := "shiftBest", inPlace := ["internal/abi.NoEscape", "internal/bytealg.MakeNoZero"], unfollowed := true, recurses := true, named := ["fenestra/width.marks", "fenestra/width.wides", "fenestra/color.named", "internal/strconv.uint64pow10", "math/bits.deBruijn32tab", "math/bits.deBruijn64tab"], apart := false, laid := [("math/bits.deBruijn32tab", laid_math_bits_deBruijn32tab), ("math/bits.deBruijn64tab", laid_math_bits_deBruijn64tab), ("internal/strconv.uint64pow10", laid_internal_strconv_uint64pow10), ("fenestra/color.named", laid_fenestra_color_named), ("fenestra/width.marks", laid_fenestra_width_marks), ("fenestra/width.wides", laid_fenestra_width_wides)], narrowed := true }
def ShiftBestUptoSaid : Prop := shiftBestUptoRow.holds Tryz.pinned (OpenSpec.upto shiftBestSpec)

/-- 'fenestralaw26.PenSteps', WHERE WHAT IT READS IS OF BULK AT MOST 1048576: true; the input reads as it did. -/
def penStepsUptoRow : OpenClaim := { program := "ytinkdfnpmoljfaagreatdoor", sum := "9fe0ad047c4a430de0791a6abf01bf64eea177c5b03ff93c5b4e692b0039a0c5", func := "fenestra/fenestralaw26.PenSteps", spec := "penSteps", inPlace := ["internal/abi.NoEscape", "internal/bytealg.MakeNoZero"], unfollowed := true, recurses := true, named := ["fenestra/width.marks", "fenestra/width.wides", "fenestra/color.named", "internal/strconv.uint64pow10", "math/bits.deBruijn32tab", "math/bits.deBruijn64tab", "fenestra/sgr.attrs"], apart := false, laid := [("math/bits.deBruijn32tab", laid_math_bits_deBruijn32tab), ("math/bits.deBruijn64tab", laid_math_bits_deBruijn64tab), ("internal/strconv.uint64pow10", laid_internal_strconv_uint64pow10), ("fenestra/color.named", laid_fenestra_color_named), ("fenestra/sgr.attrs", laid_fenestra_sgr_attrs), ("fenestra/width.marks", laid_fenestra_width_marks), ("fenestra/width.wides", laid_fenestra_width_wides)], narrowed := true }
def PenStepsUptoSaid : Prop := penStepsUptoRow.holds Tryz.pinned (OpenSpec.upto penStepsSpec)

/-- 'fenestralaw26.PenChanges', WHERE WHAT IT READS IS OF BULK AT MOST 1048576: true; the input reads as it did. -/
def penChangesUptoRow : OpenClaim := { program := "ytinkdfnpmoljfaagreatdoor", sum := "9fe0ad047c4a430de0791a6abf01bf64eea177c5b03ff93c5b4e692b0039a0c5", func := "fenestra/fenestralaw26.PenChanges", spec := "penChanges", inPlace := ["internal/abi.NoEscape", "internal/bytealg.MakeNoZero"], unfollowed := true, recurses := true, named := ["fenestra/width.marks", "fenestra/width.wides", "fenestra/color.named", "internal/strconv.uint64pow10", "math/bits.deBruijn32tab", "math/bits.deBruijn64tab", "fenestra/sgr.attrs"], apart := false, laid := [("math/bits.deBruijn32tab", laid_math_bits_deBruijn32tab), ("math/bits.deBruijn64tab", laid_math_bits_deBruijn64tab), ("internal/strconv.uint64pow10", laid_internal_strconv_uint64pow10), ("fenestra/color.named", laid_fenestra_color_named), ("fenestra/sgr.attrs", laid_fenestra_sgr_attrs), ("fenestra/width.marks", laid_fenestra_width_marks), ("fenestra/width.wides", laid_fenestra_width_wides)], narrowed := true }
def PenChangesUptoSaid : Prop := penChangesUptoRow.holds Tryz.pinned (OpenSpec.upto penChangesSpec)

/-- 'fenestralaw26.PenLeast', WHERE WHAT IT READS IS OF BULK AT MOST 1048576: true; the input reads as it did. -/
def penLeastUptoRow : OpenClaim := { program := "ytinkdfnpmoljfaagreatdoor", sum := "9fe0ad047c4a430de0791a6abf01bf64eea177c5b03ff93c5b4e692b0039a0c5", func := "fenestra/fenestralaw26.PenLeast", spec := "penLeast", inPlace := ["internal/abi.NoEscape", "internal/bytealg.MakeNoZero"], unfollowed := true, recurses := true, named := ["fenestra/width.marks", "fenestra/width.wides", "fenestra/color.named", "internal/strconv.uint64pow10", "math/bits.deBruijn32tab", "math/bits.deBruijn64tab", "fenestra/sgr.attrs"], apart := false, laid := [("math/bits.deBruijn32tab", laid_math_bits_deBruijn32tab), ("math/bits.deBruijn64tab", laid_math_bits_deBruijn64tab), ("internal/strconv.uint64pow10", laid_internal_strconv_uint64pow10), ("fenestra/color.named", laid_fenestra_color_named), ("fenestra/sgr.attrs", laid_fenestra_sgr_attrs), ("fenestra/width.marks", laid_fenestra_width_marks), ("fenestra/width.wides", laid_fenestra_width_wides)], narrowed := true }
def PenLeastUptoSaid : Prop := penLeastUptoRow.holds Tryz.pinned (OpenSpec.upto penLeastSpec)

/-- 'fenestralaw26.PenLeads', WHERE WHAT IT READS IS OF BULK AT MOST 1048576: true; the input reads as it did. -/
def penLeadsUptoRow : OpenClaim := { program := "ytinkdfnpmoljfaagreatdoor", sum := "9fe0ad047c4a430de0791a6abf01bf64eea177c5b03ff93c5b4e692b0039a0c5", func := "fenestra/fenestralaw26.PenLeads", spec := "penLeads", inPlace := ["internal/abi.NoEscape", "internal/bytealg.MakeNoZero"], unfollowed := true, recurses := true, named := ["fenestra/width.marks", "fenestra/width.wides", "fenestra/color.named", "internal/strconv.uint64pow10", "math/bits.deBruijn32tab", "math/bits.deBruijn64tab", "fenestra/sgr.attrs"], apart := false, laid := [("math/bits.deBruijn32tab", laid_math_bits_deBruijn32tab), ("math/bits.deBruijn64tab", laid_math_bits_deBruijn64tab), ("internal/strconv.uint64pow10", laid_internal_strconv_uint64pow10), ("fenestra/color.named", laid_fenestra_color_named), ("fenestra/sgr.attrs", laid_fenestra_sgr_attrs), ("fenestra/width.marks", laid_fenestra_width_marks), ("fenestra/width.wides", laid_fenestra_width_wides)], narrowed := true }
def PenLeadsUptoSaid : Prop := penLeadsUptoRow.holds Tryz.pinned (OpenSpec.upto penLeadsSpec)

end Rows
end Go.Proofs.YtinkdfnpmoljfaaGreatDoor
