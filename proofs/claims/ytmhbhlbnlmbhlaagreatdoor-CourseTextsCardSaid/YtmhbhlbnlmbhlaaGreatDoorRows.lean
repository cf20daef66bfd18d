/-
  NARROWER THAN 'FOR EVERY INPUT', by the rows' own cells (each row's printed sentence says how): CourseAreas: laid · CourseWays: laid · CourseReliefs: laid · CourseUpkeep: laid · CourseOneArea: laid · CourseNearest: laid · CoursePolygons: laid · CourseDays: laid · CoursePlanned: laid · CourseMoves: laid · CourseKept: laid · CourseTexts: laid.
  DERIVED. THE GIVEN ROWS OF THIS SEAT. 12 by the template 'for every input the law returns true; each argument reads behind the call as it read before'; 0 by the template 'total and deterministic' (their statements: YtmhbhlbnlmbhlaaGreatDoorTotals.lean).
  GIVEN WITH THE SEED: the statements are not yours to turn. If you find one false, say at which input.
  Laid BY PROGRAM, IN A SANDBOX (cutbox-rows.mjs): the forced cells as the released guide's own fill.sh prints them over the translation 5c3d89461ba456c7… (all of the seat's roots in one cut). By AI agents, Wed Nov 11 2026. No macro, syntax, notation, axiom, sorry.
-/
import Derived.Test.YtmhbhlbnlmbhlaaGreatDoorChecked
import GoSem.PinnedTables
import GoSem.Claim
import GoSem.ClaimJoined
import GoSem.ClaimMapViews
import Derived.JoinedTies
import Derived.KernelRfl
namespace Go.Proofs.YtmhbhlbnlmbhlaaGreatDoor
/- THE CELL 'sum', in the pinned program and in every row, IS THE sha256 OF THE DUMP (.gsa) THAT YtmhbhlbnlmbhlaaGreatDoorProg.lean LOADS. Nothing in Lean hashes anything: it is a label: what it is worth is what the hold of that sum in a sandbox is worth. -/
noncomputable def Tryz.pinned : Pinned := { name := "ytmhbhlbnlmbhlaagreatdoor", sum := "5c3d89461ba456c7eb787db214ed251b24d84b931715c9ddb8994de07b8fb5d6", checked := Tryz.checked }
namespace Rows
def none {H : Type} : Left H := { results := [], args := [] }

/- WHAT THE LISTED PACKAGE-LEVEL VARIABLES READ AS WHEN THE CALL BEGINS. Each datum BY PROGRAM (the guide's laid-datum.mjs) off the statement by which the dump's own 'gosem.cut.vars' lays the variable. In a bare row this is a premise. The card (YtmhbhlbnlmbhlaaGreatDoorCards.lean) ties it to the program's text. -/
def laid_math_bits_deBruijn32tab {H : Type} : DataW H := .agg [.lit (.int .u8 0), .lit (.int .u8 1), .lit (.int .u8 28), .lit (.int .u8 2), .lit (.int .u8 29), .lit (.int .u8 14), .lit (.int .u8 24), .lit (.int .u8 3), .lit (.int .u8 30), .lit (.int .u8 22), .lit (.int .u8 20), .lit (.int .u8 15), .lit (.int .u8 25), .lit (.int .u8 17), .lit (.int .u8 4), .lit (.int .u8 8), .lit (.int .u8 31), .lit (.int .u8 27), .lit (.int .u8 13), .lit (.int .u8 23), .lit (.int .u8 21), .lit (.int .u8 19), .lit (.int .u8 16), .lit (.int .u8 7), .lit (.int .u8 26), .lit (.int .u8 12), .lit (.int .u8 18), .lit (.int .u8 6), .lit (.int .u8 11), .lit (.int .u8 5), .lit (.int .u8 10), .lit (.int .u8 9)]
def laid_math_bits_deBruijn64tab {H : Type} : DataW H := .agg [.lit (.int .u8 0), .lit (.int .u8 1), .lit (.int .u8 56), .lit (.int .u8 2), .lit (.int .u8 57), .lit (.int .u8 49), .lit (.int .u8 28), .lit (.int .u8 3), .lit (.int .u8 61), .lit (.int .u8 58), .lit (.int .u8 42), .lit (.int .u8 50), .lit (.int .u8 38), .lit (.int .u8 29), .lit (.int .u8 17), .lit (.int .u8 4), .lit (.int .u8 62), .lit (.int .u8 47), .lit (.int .u8 59), .lit (.int .u8 36), .lit (.int .u8 45), .lit (.int .u8 43), .lit (.int .u8 51), .lit (.int .u8 22), .lit (.int .u8 53), .lit (.int .u8 39), .lit (.int .u8 33), .lit (.int .u8 30), .lit (.int .u8 24), .lit (.int .u8 18), .lit (.int .u8 12), .lit (.int .u8 5), .lit (.int .u8 63), .lit (.int .u8 55), .lit (.int .u8 48), .lit (.int .u8 27), .lit (.int .u8 60), .lit (.int .u8 41), .lit (.int .u8 37), .lit (.int .u8 16), .lit (.int .u8 46), .lit (.int .u8 35), .lit (.int .u8 44), .lit (.int .u8 21), .lit (.int .u8 52), .lit (.int .u8 32), .lit (.int .u8 23), .lit (.int .u8 11), .lit (.int .u8 54), .lit (.int .u8 26), .lit (.int .u8 40), .lit (.int .u8 15), .lit (.int .u8 34), .lit (.int .u8 20), .lit (.int .u8 31), .lit (.int .u8 10), .lit (.int .u8 25), .lit (.int .u8 14), .lit (.int .u8 19), .lit (.int .u8 9), .lit (.int .u8 13), .lit (.int .u8 8), .lit (.int .u8 7), .lit (.int .u8 6)]
def laid_internal_strconv_uint64pow10 {H : Type} : DataW H := .agg [.lit (.int .u64 1), .lit (.int .u64 10), .lit (.int .u64 100), .lit (.int .u64 1000), .lit (.int .u64 10000), .lit (.int .u64 100000), .lit (.int .u64 1000000), .lit (.int .u64 10000000), .lit (.int .u64 100000000), .lit (.int .u64 1000000000), .lit (.int .u64 10000000000), .lit (.int .u64 100000000000), .lit (.int .u64 1000000000000), .lit (.int .u64 10000000000000), .lit (.int .u64 100000000000000), .lit (.int .u64 1000000000000000), .lit (.int .u64 10000000000000000), .lit (.int .u64 100000000000000000), .lit (.int .u64 1000000000000000000), .lit (.int .u64 10000000000000000000)]
def laid_niblick_course_order {H : Type} : DataW H := .agg [.lit (.string [103, 114, 101, 101, 110]), .lit (.string [116, 101, 101]), .lit (.string [98, 117, 110, 107, 101, 114]), .lit (.string [119, 97, 116, 101, 114]), .lit (.string [102, 97, 105, 114, 119, 97, 121]), .lit (.string [114, 111, 117, 103, 104])]
def laid_unicode_utf8_acceptRanges {H : Type} : DataW H := .agg [.agg [.lit (.int .u8 128), .lit (.int .u8 191)], .agg [.lit (.int .u8 160), .lit (.int .u8 191)], .agg [.lit (.int .u8 128), .lit (.int .u8 159)], .agg [.lit (.int .u8 144), .lit (.int .u8 191)], .agg [.lit (.int .u8 128), .lit (.int .u8 143)], .agg [.lit (.int .u8 0), .lit (.int .u8 0)], .agg [.lit (.int .u8 0), .lit (.int .u8 0)], .agg [.lit (.int .u8 0), .lit (.int .u8 0)], .agg [.lit (.int .u8 0), .lit (.int .u8 0)], .agg [.lit (.int .u8 0), .lit (.int .u8 0)], .agg [.lit (.int .u8 0), .lit (.int .u8 0)], .agg [.lit (.int .u8 0), .lit (.int .u8 0)], .agg [.lit (.int .u8 0), .lit (.int .u8 0)], .agg [.lit (.int .u8 0), .lit (.int .u8 0)], .agg [.lit (.int .u8 0), .lit (.int .u8 0)], .agg [.lit (.int .u8 0), .lit (.int .u8 0)]]
def laid_strconv_ErrRange {H : Type} : DataW H := .iface "*errors.errorString" (.ptr (.agg [.lit (.string [118, 97, 108, 117, 101, 32, 111, 117, 116, 32, 111, 102, 32, 114, 97, 110, 103, 101])]))
def laid_strconv_ErrSyntax {H : Type} : DataW H := .iface "*errors.errorString" (.ptr (.agg [.lit (.string [105, 110, 118, 97, 108, 105, 100, 32, 115, 121, 110, 116, 97, 120])]))
/-- One of Go's own tables, pinned by name: the form's constant. -/
def laid_unicode_utf8_first : DataW Unit := Go.Pinned.utf8First

/-- 'niblicklaw02.CourseAreas': WHATEVER THE INPUT: true; the input reads as it did. -/
def courseAreasSpec : ChangeSpec := { name := "courseAreas", fn := fun _ => fun
  | [d1, d2] => { results := [.lit (.bool true)], args := [d1, d2] }
  | _ => none }
def courseAreasRow : OpenClaim := { program := "ytmhbhlbnlmbhlaagreatdoor", sum := "5c3d89461ba456c7eb787db214ed251b24d84b931715c9ddb8994de07b8fb5d6", func := "niblick/niblicklaw02.CourseAreas", spec := "courseAreas", inPlace := ["math/bits.Add64", "math/bits.Sub64", "internal/abi.NoEscape", "internal/bytealg.MakeNoZero"], unfollowed := true, recurses := true, named := ["niblick/course.order", "math/bits.divideError", "math/bits.overflowError", "internal/strconv.uint64pow10", "math/bits.deBruijn32tab", "math/bits.deBruijn64tab"], plainKeys := false, apart := false, laid := [("math/bits.deBruijn32tab", laid_math_bits_deBruijn32tab), ("math/bits.deBruijn64tab", laid_math_bits_deBruijn64tab), ("internal/strconv.uint64pow10", laid_internal_strconv_uint64pow10), ("niblick/course.order", laid_niblick_course_order)] }
def CourseAreasSaid : Prop := courseAreasRow.holds Tryz.pinned (OpenSpec.ofChange courseAreasSpec)

/-- ITS FALSE NEIGHBOUR: 'it returns false'. Refute it at one input. -/
def courseAreasWrong : ChangeSpec := { name := "courseAreas", fn := fun _ => fun
  | [d1, d2] => { results := [.lit (.bool false)], args := [d1, d2] }
  | _ => none }
def CourseAreasWrongFalsely : Prop := courseAreasRow.holds Tryz.pinned (OpenSpec.ofChange courseAreasWrong)

/-- 'niblicklaw02.CourseWays': WHATEVER THE INPUT: true; the input reads as it did. -/
def courseWaysSpec : ChangeSpec := { name := "courseWays", fn := fun _ => fun
  | [d1, d2] => { results := [.lit (.bool true)], args := [d1, d2] }
  | _ => none }
def courseWaysRow : OpenClaim := { program := "ytmhbhlbnlmbhlaagreatdoor", sum := "5c3d89461ba456c7eb787db214ed251b24d84b931715c9ddb8994de07b8fb5d6", func := "niblick/niblicklaw02.CourseWays", spec := "courseWays", inPlace := ["math/bits.Add64", "math/bits.Sub64", "internal/abi.NoEscape", "internal/bytealg.MakeNoZero"], unfollowed := true, recurses := true, named := ["niblick/course.order", "math/bits.divideError", "math/bits.overflowError", "internal/strconv.uint64pow10", "math/bits.deBruijn32tab", "math/bits.deBruijn64tab"], plainKeys := false, apart := false, laid := [("math/bits.deBruijn32tab", laid_math_bits_deBruijn32tab), ("math/bits.deBruijn64tab", laid_math_bits_deBruijn64tab), ("internal/strconv.uint64pow10", laid_internal_strconv_uint64pow10), ("niblick/course.order", laid_niblick_course_order)] }
def CourseWaysSaid : Prop := courseWaysRow.holds Tryz.pinned (OpenSpec.ofChange courseWaysSpec)

/-- ITS FALSE NEIGHBOUR: 'it returns false'. Refute it at one input. -/
def courseWaysWrong : ChangeSpec := { name := "courseWays", fn := fun _ => fun
  | [d1, d2] => { results := [.lit (.bool false)], args := [d1, d2] }
  | _ => none }
def CourseWaysWrongFalsely : Prop := courseWaysRow.holds Tryz.pinned (OpenSpec.ofChange courseWaysWrong)

/-- 'niblicklaw02.CourseReliefs': WHATEVER THE INPUT: true; the input reads as it did. -/
def courseReliefsSpec : ChangeSpec := { name := "courseReliefs", fn := fun _ => fun
  | [d1, d2, d3] => { results := [.lit (.bool true)], args := [d1, d2, d3] }
  | _ => none }
def courseReliefsRow : OpenClaim := { program := "ytmhbhlbnlmbhlaagreatdoor", sum := "5c3d89461ba456c7eb787db214ed251b24d84b931715c9ddb8994de07b8fb5d6", func := "niblick/niblicklaw02.CourseReliefs", spec := "courseReliefs", inPlace := ["math/bits.Add64", "math/bits.Sub64", "internal/abi.NoEscape", "internal/bytealg.MakeNoZero"], unfollowed := true, recurses := true, named := ["niblick/course.order", "math/bits.divideError", "math/bits.overflowError", "internal/strconv.uint64pow10", "math/bits.deBruijn32tab", "math/bits.deBruijn64tab"], plainKeys := false, apart := false, laid := [("math/bits.deBruijn32tab", laid_math_bits_deBruijn32tab), ("math/bits.deBruijn64tab", laid_math_bits_deBruijn64tab), ("internal/strconv.uint64pow10", laid_internal_strconv_uint64pow10), ("niblick/course.order", laid_niblick_course_order)] }
def CourseReliefsSaid : Prop := courseReliefsRow.holds Tryz.pinned (OpenSpec.ofChange courseReliefsSpec)

/-- ITS FALSE NEIGHBOUR: 'it returns false'. Refute it at one input. -/
def courseReliefsWrong : ChangeSpec := { name := "courseReliefs", fn := fun _ => fun
  | [d1, d2, d3] => { results := [.lit (.bool false)], args := [d1, d2, d3] }
  | _ => none }
def CourseReliefsWrongFalsely : Prop := courseReliefsRow.holds Tryz.pinned (OpenSpec.ofChange courseReliefsWrong)

/-- 'niblicklaw02.CourseUpkeep': WHATEVER THE INPUT: true; the input reads as it did. -/
def courseUpkeepSpec : ChangeSpec := { name := "courseUpkeep", fn := fun _ => fun
  | [d1, d2, d3] => { results := [.lit (.bool true)], args := [d1, d2, d3] }
  | _ => none }
def courseUpkeepRow : OpenClaim := { program := "ytmhbhlbnlmbhlaagreatdoor", sum := "5c3d89461ba456c7eb787db214ed251b24d84b931715c9ddb8994de07b8fb5d6", func := "niblick/niblicklaw02.CourseUpkeep", spec := "courseUpkeep", inPlace := ["math/bits.Add64", "math/bits.Sub64", "internal/abi.NoEscape", "internal/bytealg.MakeNoZero"], unfollowed := true, recurses := true, named := ["niblick/course.order", "math/bits.divideError", "math/bits.overflowError", "internal/strconv.uint64pow10", "math/bits.deBruijn32tab", "math/bits.deBruijn64tab"], plainKeys := false, apart := false, laid := [("math/bits.deBruijn32tab", laid_math_bits_deBruijn32tab), ("math/bits.deBruijn64tab", laid_math_bits_deBruijn64tab), ("internal/strconv.uint64pow10", laid_internal_strconv_uint64pow10), ("niblick/course.order", laid_niblick_course_order)] }
def CourseUpkeepSaid : Prop := courseUpkeepRow.holds Tryz.pinned (OpenSpec.ofChange courseUpkeepSpec)

/-- ITS FALSE NEIGHBOUR: 'it returns false'. Refute it at one input. -/
def courseUpkeepWrong : ChangeSpec := { name := "courseUpkeep", fn := fun _ => fun
  | [d1, d2, d3] => { results := [.lit (.bool false)], args := [d1, d2, d3] }
  | _ => none }
def CourseUpkeepWrongFalsely : Prop := courseUpkeepRow.holds Tryz.pinned (OpenSpec.ofChange courseUpkeepWrong)

/-- 'niblicklaw02.CourseOneArea': WHATEVER THE INPUT: true; the input reads as it did. -/
def courseOneAreaSpec : ChangeSpec := { name := "courseOneArea", fn := fun _ => fun
  | [d1, d2, d3] => { results := [.lit (.bool true)], args := [d1, d2, d3] }
  | _ => none }
def courseOneAreaRow : OpenClaim := { program := "ytmhbhlbnlmbhlaagreatdoor", sum := "5c3d89461ba456c7eb787db214ed251b24d84b931715c9ddb8994de07b8fb5d6", func := "niblick/niblicklaw02.CourseOneArea", spec := "courseOneArea", inPlace := ["math/bits.Add64", "math/bits.Sub64", "internal/abi.NoEscape", "internal/bytealg.MakeNoZero"], unfollowed := true, recurses := true, named := ["niblick/course.order", "math/bits.divideError", "math/bits.overflowError", "internal/strconv.uint64pow10", "math/bits.deBruijn32tab", "math/bits.deBruijn64tab"], plainKeys := false, apart := false, laid := [("math/bits.deBruijn32tab", laid_math_bits_deBruijn32tab), ("math/bits.deBruijn64tab", laid_math_bits_deBruijn64tab), ("internal/strconv.uint64pow10", laid_internal_strconv_uint64pow10), ("niblick/course.order", laid_niblick_course_order)] }
def CourseOneAreaSaid : Prop := courseOneAreaRow.holds Tryz.pinned (OpenSpec.ofChange courseOneAreaSpec)

/-- ITS FALSE NEIGHBOUR: 'it returns false'. Refute it at one input. -/
def courseOneAreaWrong : ChangeSpec := { name := "courseOneArea", fn := fun _ => fun
  | [d1, d2, d3] => { results := [.lit (.bool false)], args := [d1, d2, d3] }
  | _ => none }
def CourseOneAreaWrongFalsely : Prop := courseOneAreaRow.holds Tryz.pinned (OpenSpec.ofChange courseOneAreaWrong)

/-- 'niblicklaw02.CourseNearest': WHATEVER THE INPUT: true; the input reads as it did. -/
def courseNearestSpec : ChangeSpec := { name := "courseNearest", fn := fun _ => fun
  | [d1, d2, d3] => { results := [.lit (.bool true)], args := [d1, d2, d3] }
  | _ => none }
def courseNearestRow : OpenClaim := { program := "ytmhbhlbnlmbhlaagreatdoor", sum := "5c3d89461ba456c7eb787db214ed251b24d84b931715c9ddb8994de07b8fb5d6", func := "niblick/niblicklaw02.CourseNearest", spec := "courseNearest", inPlace := ["math/bits.Add64", "math/bits.Sub64", "internal/abi.NoEscape", "internal/bytealg.MakeNoZero"], unfollowed := true, recurses := true, named := ["niblick/course.order", "math/bits.divideError", "math/bits.overflowError", "internal/strconv.uint64pow10", "math/bits.deBruijn32tab", "math/bits.deBruijn64tab"], plainKeys := false, apart := false, laid := [("math/bits.deBruijn32tab", laid_math_bits_deBruijn32tab), ("math/bits.deBruijn64tab", laid_math_bits_deBruijn64tab), ("internal/strconv.uint64pow10", laid_internal_strconv_uint64pow10), ("niblick/course.order", laid_niblick_course_order)] }
def CourseNearestSaid : Prop := courseNearestRow.holds Tryz.pinned (OpenSpec.ofChange courseNearestSpec)

/-- ITS FALSE NEIGHBOUR: 'it returns false'. Refute it at one input. -/
def courseNearestWrong : ChangeSpec := { name := "courseNearest", fn := fun _ => fun
  | [d1, d2, d3] => { results := [.lit (.bool false)], args := [d1, d2, d3] }
  | _ => none }
def CourseNearestWrongFalsely : Prop := courseNearestRow.holds Tryz.pinned (OpenSpec.ofChange courseNearestWrong)

/-- 'niblicklaw02.CoursePolygons': WHATEVER THE INPUT: true; the input reads as it did. -/
def coursePolygonsSpec : ChangeSpec := { name := "coursePolygons", fn := fun _ => fun
  | [d1, d2, d3] => { results := [.lit (.bool true)], args := [d1, d2, d3] }
  | _ => none }
def coursePolygonsRow : OpenClaim := { program := "ytmhbhlbnlmbhlaagreatdoor", sum := "5c3d89461ba456c7eb787db214ed251b24d84b931715c9ddb8994de07b8fb5d6", func := "niblick/niblicklaw02.CoursePolygons", spec := "coursePolygons", inPlace := ["math/bits.Add64", "math/bits.Sub64", "internal/abi.NoEscape", "internal/bytealg.MakeNoZero"], unfollowed := true, recurses := true, named := ["niblick/course.order", "math/bits.divideError", "math/bits.overflowError", "internal/strconv.uint64pow10", "math/bits.deBruijn32tab", "math/bits.deBruijn64tab"], plainKeys := false, apart := false, laid := [("math/bits.deBruijn32tab", laid_math_bits_deBruijn32tab), ("math/bits.deBruijn64tab", laid_math_bits_deBruijn64tab), ("internal/strconv.uint64pow10", laid_internal_strconv_uint64pow10), ("niblick/course.order", laid_niblick_course_order)] }
def CoursePolygonsSaid : Prop := coursePolygonsRow.holds Tryz.pinned (OpenSpec.ofChange coursePolygonsSpec)

/-- ITS FALSE NEIGHBOUR: 'it returns false'. Refute it at one input. -/
def coursePolygonsWrong : ChangeSpec := { name := "coursePolygons", fn := fun _ => fun
  | [d1, d2, d3] => { results := [.lit (.bool false)], args := [d1, d2, d3] }
  | _ => none }
def CoursePolygonsWrongFalsely : Prop := coursePolygonsRow.holds Tryz.pinned (OpenSpec.ofChange coursePolygonsWrong)

/-- 'niblicklaw02.CourseDays': WHATEVER THE INPUT: true; the input reads as it did. -/
def courseDaysSpec : ChangeSpec := { name := "courseDays", fn := fun _ => fun
  | [d1, d2, d3] => { results := [.lit (.bool true)], args := [d1, d2, d3] }
  | _ => none }
def courseDaysRow : OpenClaim := { program := "ytmhbhlbnlmbhlaagreatdoor", sum := "5c3d89461ba456c7eb787db214ed251b24d84b931715c9ddb8994de07b8fb5d6", func := "niblick/niblicklaw02.CourseDays", spec := "courseDays", inPlace := ["math/bits.Add64", "math/bits.Sub64", "internal/abi.NoEscape", "internal/bytealg.MakeNoZero"], unfollowed := true, recurses := true, named := ["niblick/course.order", "math/bits.divideError", "math/bits.overflowError", "internal/strconv.uint64pow10", "math/bits.deBruijn32tab", "math/bits.deBruijn64tab"], plainKeys := false, apart := false, laid := [("math/bits.deBruijn32tab", laid_math_bits_deBruijn32tab), ("math/bits.deBruijn64tab", laid_math_bits_deBruijn64tab), ("internal/strconv.uint64pow10", laid_internal_strconv_uint64pow10), ("niblick/course.order", laid_niblick_course_order)] }
def CourseDaysSaid : Prop := courseDaysRow.holds Tryz.pinned (OpenSpec.ofChange courseDaysSpec)

/-- ITS FALSE NEIGHBOUR: 'it returns false'. Refute it at one input. -/
def courseDaysWrong : ChangeSpec := { name := "courseDays", fn := fun _ => fun
  | [d1, d2, d3] => { results := [.lit (.bool false)], args := [d1, d2, d3] }
  | _ => none }
def CourseDaysWrongFalsely : Prop := courseDaysRow.holds Tryz.pinned (OpenSpec.ofChange courseDaysWrong)

/-- 'niblicklaw02.CoursePlanned': WHATEVER THE INPUT: true; the input reads as it did. -/
def coursePlannedSpec : ChangeSpec := { name := "coursePlanned", fn := fun _ => fun
  | [d1, d2, d3] => { results := [.lit (.bool true)], args := [d1, d2, d3] }
  | _ => none }
def coursePlannedRow : OpenClaim := { program := "ytmhbhlbnlmbhlaagreatdoor", sum := "5c3d89461ba456c7eb787db214ed251b24d84b931715c9ddb8994de07b8fb5d6", func := "niblick/niblicklaw02.CoursePlanned", spec := "coursePlanned", inPlace := ["math/bits.Add64", "math/bits.Sub64", "internal/abi.NoEscape", "internal/bytealg.MakeNoZero"], unfollowed := true, recurses := true, named := ["niblick/course.order", "math/bits.divideError", "math/bits.overflowError", "internal/strconv.uint64pow10", "math/bits.deBruijn32tab", "math/bits.deBruijn64tab"], plainKeys := false, apart := false, laid := [("math/bits.deBruijn32tab", laid_math_bits_deBruijn32tab), ("math/bits.deBruijn64tab", laid_math_bits_deBruijn64tab), ("internal/strconv.uint64pow10", laid_internal_strconv_uint64pow10), ("niblick/course.order", laid_niblick_course_order)] }
def CoursePlannedSaid : Prop := coursePlannedRow.holds Tryz.pinned (OpenSpec.ofChange coursePlannedSpec)

/-- ITS FALSE NEIGHBOUR: 'it returns false'. Refute it at one input. -/
def coursePlannedWrong : ChangeSpec := { name := "coursePlanned", fn := fun _ => fun
  | [d1, d2, d3] => { results := [.lit (.bool false)], args := [d1, d2, d3] }
  | _ => none }
def CoursePlannedWrongFalsely : Prop := coursePlannedRow.holds Tryz.pinned (OpenSpec.ofChange coursePlannedWrong)

/-- 'niblicklaw02.CourseMoves': WHATEVER THE INPUT: true; the input reads as it did. -/
def courseMovesSpec : ChangeSpec := { name := "courseMoves", fn := fun _ => fun
  | [d1, d2, d3] => { results := [.lit (.bool true)], args := [d1, d2, d3] }
  | _ => none }
def courseMovesRow : OpenClaim := { program := "ytmhbhlbnlmbhlaagreatdoor", sum := "5c3d89461ba456c7eb787db214ed251b24d84b931715c9ddb8994de07b8fb5d6", func := "niblick/niblicklaw02.CourseMoves", spec := "courseMoves", inPlace := ["math/bits.Add64", "math/bits.Sub64", "internal/abi.NoEscape", "internal/bytealg.MakeNoZero"], unfollowed := true, recurses := true, named := ["niblick/course.order", "math/bits.divideError", "math/bits.overflowError", "internal/strconv.uint64pow10", "math/bits.deBruijn32tab", "math/bits.deBruijn64tab"], plainKeys := false, apart := false, laid := [("math/bits.deBruijn32tab", laid_math_bits_deBruijn32tab), ("math/bits.deBruijn64tab", laid_math_bits_deBruijn64tab), ("internal/strconv.uint64pow10", laid_internal_strconv_uint64pow10), ("niblick/course.order", laid_niblick_course_order)] }
def CourseMovesSaid : Prop := courseMovesRow.holds Tryz.pinned (OpenSpec.ofChange courseMovesSpec)

/-- ITS FALSE NEIGHBOUR: 'it returns false'. Refute it at one input. -/
def courseMovesWrong : ChangeSpec := { name := "courseMoves", fn := fun _ => fun
  | [d1, d2, d3] => { results := [.lit (.bool false)], args := [d1, d2, d3] }
  | _ => none }
def CourseMovesWrongFalsely : Prop := courseMovesRow.holds Tryz.pinned (OpenSpec.ofChange courseMovesWrong)

/-- 'niblicklaw02.CourseKept': WHATEVER THE INPUT: true; the input reads as it did. -/
def courseKeptSpec : ChangeSpec := { name := "courseKept", fn := fun _ => fun
  | [d1, d2, d3] => { results := [.lit (.bool true)], args := [d1, d2, d3] }
  | _ => none }
def courseKeptRow : OpenClaim := { program := "ytmhbhlbnlmbhlaagreatdoor", sum := "5c3d89461ba456c7eb787db214ed251b24d84b931715c9ddb8994de07b8fb5d6", func := "niblick/niblicklaw02.CourseKept", spec := "courseKept", inPlace := ["math/bits.Add64", "math/bits.Sub64", "internal/abi.NoEscape", "internal/bytealg.MakeNoZero"], unfollowed := true, recurses := true, named := ["niblick/course.order", "math/bits.divideError", "math/bits.overflowError", "internal/strconv.uint64pow10", "math/bits.deBruijn32tab", "math/bits.deBruijn64tab"], plainKeys := false, apart := false, laid := [("math/bits.deBruijn32tab", laid_math_bits_deBruijn32tab), ("math/bits.deBruijn64tab", laid_math_bits_deBruijn64tab), ("internal/strconv.uint64pow10", laid_internal_strconv_uint64pow10), ("niblick/course.order", laid_niblick_course_order)] }
def CourseKeptSaid : Prop := courseKeptRow.holds Tryz.pinned (OpenSpec.ofChange courseKeptSpec)

/-- ITS FALSE NEIGHBOUR: 'it returns false'. Refute it at one input. -/
def courseKeptWrong : ChangeSpec := { name := "courseKept", fn := fun _ => fun
  | [d1, d2, d3] => { results := [.lit (.bool false)], args := [d1, d2, d3] }
  | _ => none }
def CourseKeptWrongFalsely : Prop := courseKeptRow.holds Tryz.pinned (OpenSpec.ofChange courseKeptWrong)

/-- 'niblicklaw02.CourseTexts': WHATEVER THE INPUT: true; the input reads as it did. -/
def courseTextsSpec : ChangeSpec := { name := "courseTexts", fn := fun _ => fun
  | [d1, d2] => { results := [.lit (.bool true)], args := [d1, d2] }
  | _ => none }
def courseTextsRow : OpenClaim := { program := "ytmhbhlbnlmbhlaagreatdoor", sum := "5c3d89461ba456c7eb787db214ed251b24d84b931715c9ddb8994de07b8fb5d6", func := "niblick/niblicklaw02.CourseTexts", spec := "courseTexts", inPlace := ["math/bits.Add64", "math/bits.Sub64", "internal/abi.NoEscape", "internal/bytealg.MakeNoZero", "internal/bytealg.CountString", "internal/bytealg.IndexByteString", "internal/bytealg.IndexString"], unfollowed := true, recurses := true, named := ["niblick/course.order", "math/bits.divideError", "math/bits.overflowError", "internal/strconv.uint64pow10", "math/bits.deBruijn32tab", "math/bits.deBruijn64tab", "unicode/utf8.first", "unicode/utf8.acceptRanges", "internal/bytealg.MaxLen", "strconv.ErrSyntax", "strconv.ErrRange"], plainKeys := false, apart := false, laid := [("math/bits.deBruijn32tab", laid_math_bits_deBruijn32tab), ("math/bits.deBruijn64tab", laid_math_bits_deBruijn64tab), ("internal/strconv.uint64pow10", laid_internal_strconv_uint64pow10), ("unicode/utf8.acceptRanges", laid_unicode_utf8_acceptRanges), ("strconv.ErrRange", laid_strconv_ErrRange), ("strconv.ErrSyntax", laid_strconv_ErrSyntax), ("niblick/course.order", laid_niblick_course_order), ("unicode/utf8.first", laid_unicode_utf8_first)] }
def CourseTextsSaid : Prop := courseTextsRow.holds Tryz.pinned (OpenSpec.ofChange courseTextsSpec)

/-- ITS FALSE NEIGHBOUR: 'it returns false'. Refute it at one input. -/
def courseTextsWrong : ChangeSpec := { name := "courseTexts", fn := fun _ => fun
  | [d1, d2] => { results := [.lit (.bool false)], args := [d1, d2] }
  | _ => none }
def CourseTextsWrongFalsely : Prop := courseTextsRow.holds Tryz.pinned (OpenSpec.ofChange courseTextsWrong)

/- THE SECOND FORM. 'bulk': how many values and letters a reading holds, each counted each time it is reached (what is shared counts as often as it is met; a slice's spare places count too). A statement '..UptoSaid' is the law's where the arguments, and the package variables that the reading takes, are together of bulk at most 1048576: NARROWER than '..Said'. Prove '..Said' where nothing that the law and all that it calls make is longer than what came in: it says more and counts as full. Else prove '..UptoSaid'. A law counts once. -/
mutual
def uptoBulk {H : Type} : DataW H → Nat
  | .lit (.string bytes) => bytes.length + 1
  | .lit _ => 1
  | .nil => 1
  | .ptr d => uptoBulk d + 1
  | .slice elems spare => uptoBulkAll elems + uptoBulkAll spare + 1
  | .agg parts => uptoBulkAll parts + 1
  | .iface _ d => uptoBulk d + 1
  | .map entries => uptoBulkEntries entries + 1
  | .held _ => 1
def uptoBulkAll {H : Type} : List (DataW H) → Nat
  | [] => 0
  | d :: r => uptoBulk d + uptoBulkAll r
def uptoBulkEntries {H : Type} : List (Lit × DataW H) → Nat
  | [] => 0
  | x :: r => uptoBulkEntry x + uptoBulkEntries r
def uptoBulkEntry {H : Type} : Lit × DataW H → Nat
  | (.string bytes, d) => bytes.length + uptoBulk d + 1
  | (_, d) => uptoBulk d + 1
 end
def uptoSmall : (H : Type) → List (DataW H) → Bool := fun _ ds => decide (uptoBulkAll ds ≤ 1048576)
def OpenSpec.upto (s : _root_.Go.ChangeSpec) : _root_.Go.OpenSpec := { _root_.Go.OpenSpec.ofChange s with cond := some uptoSmall }

/-- 'niblicklaw02.CourseAreas', WHERE WHAT IT READS IS OF BULK AT MOST 1048576: true; the input reads as it did. -/
def courseAreasUptoRow : OpenClaim := { program := "ytmhbhlbnlmbhlaagreatdoor", sum := "5c3d89461ba456c7eb787db214ed251b24d84b931715c9ddb8994de07b8fb5d6", func := "niblick/niblicklaw02.CourseAreas", spec := "courseAreas", inPlace := ["math/bits.Add64", "math/bits.Sub64", "internal/abi.NoEscape", "internal/bytealg.MakeNoZero"], unfollowed := true, recurses := true, named := ["niblick/course.order", "math/bits.divideError", "math/bits.overflowError", "internal/strconv.uint64pow10", "math/bits.deBruijn32tab", "math/bits.deBruijn64tab"], plainKeys := false, apart := false, laid := [("math/bits.deBruijn32tab", laid_math_bits_deBruijn32tab), ("math/bits.deBruijn64tab", laid_math_bits_deBruijn64tab), ("internal/strconv.uint64pow10", laid_internal_strconv_uint64pow10), ("niblick/course.order", laid_niblick_course_order)], narrowed := true }
def CourseAreasUptoSaid : Prop := courseAreasUptoRow.holds Tryz.pinned (OpenSpec.upto courseAreasSpec)

/-- 'niblicklaw02.CourseWays', WHERE WHAT IT READS IS OF BULK AT MOST 1048576: true; the input reads as it did. -/
def courseWaysUptoRow : OpenClaim := { program := "ytmhbhlbnlmbhlaagreatdoor", sum := "5c3d89461ba456c7eb787db214ed251b24d84b931715c9ddb8994de07b8fb5d6", func := "niblick/niblicklaw02.CourseWays", spec := "courseWays", inPlace := ["math/bits.Add64", "math/bits.Sub64", "internal/abi.NoEscape", "internal/bytealg.MakeNoZero"], unfollowed := true, recurses := true, named := ["niblick/course.order", "math/bits.divideError", "math/bits.overflowError", "internal/strconv.uint64pow10", "math/bits.deBruijn32tab", "math/bits.deBruijn64tab"], plainKeys := false, apart := false, laid := [("math/bits.deBruijn32tab", laid_math_bits_deBruijn32tab), ("math/bits.deBruijn64tab", laid_math_bits_deBruijn64tab), ("internal/strconv.uint64pow10", laid_internal_strconv_uint64pow10), ("niblick/course.order", laid_niblick_course_order)], narrowed := true }
def CourseWaysUptoSaid : Prop := courseWaysUptoRow.holds Tryz.pinned (OpenSpec.upto courseWaysSpec)

/-- 'niblicklaw02.CourseReliefs', WHERE WHAT IT READS IS OF BULK AT MOST 1048576: true; the input reads as it did. -/
def courseReliefsUptoRow : OpenClaim := { program := "ytmhbhlbnlmbhlaagreatdoor", sum := "5c3d89461ba456c7eb787db214ed251b24d84b931715c9ddb8994de07b8fb5d6", func := "niblick/niblicklaw02.CourseReliefs", spec := "courseReliefs", inPlace := ["math/bits.Add64", "math/bits.Sub64", "internal/abi.NoEscape", "internal/bytealg.MakeNoZero"], unfollowed := true, recurses := true, named := ["niblick/course.order", "math/bits.divideError", "math/bits.overflowError", "internal/strconv.uint64pow10", "math/bits.deBruijn32tab", "math/bits.deBruijn64tab"], plainKeys := false, apart := false, laid := [("math/bits.deBruijn32tab", laid_math_bits_deBruijn32tab), ("math/bits.deBruijn64tab", laid_math_bits_deBruijn64tab), ("internal/strconv.uint64pow10", laid_internal_strconv_uint64pow10), ("niblick/course.order", laid_niblick_course_order)], narrowed := true }
def CourseReliefsUptoSaid : Prop := courseReliefsUptoRow.holds Tryz.pinned (OpenSpec.upto courseReliefsSpec)

/-- 'niblicklaw02.CourseUpkeep', WHERE WHAT IT READS IS OF BULK AT MOST 1048576: true; the input reads as it did. -/
def courseUpkeepUptoRow : OpenClaim := { program := "ytmhbhlbnlmbhlaagreatdoor", sum := "5c3d89461ba456c7eb787db214ed251b24d84b931715c9ddb8994de07b8fb5d6", func := "niblick/niblicklaw02.CourseUpkeep", spec := "courseUpkeep", inPlace := ["math/bits.Add64", "math/bits.Sub64", "internal/abi.NoEscape", "internal/bytealg.MakeNoZero"], unfollowed := true, recurses := true, named := ["niblick/course.order", "math/bits.divideError", "math/bits.overflowError", "internal/strconv.uint64pow10", "math/bits.deBruijn32tab", "math/bits.deBruijn64tab"], plainKeys := false, apart := false, laid := [("math/bits.deBruijn32tab", laid_math_bits_deBruijn32tab), ("math/bits.deBruijn64tab", laid_math_bits_deBruijn64tab), ("internal/strconv.uint64pow10", laid_internal_strconv_uint64pow10), ("niblick/course.order", laid_niblick_course_order)], narrowed := true }
def CourseUpkeepUptoSaid : Prop := courseUpkeepUptoRow.holds Tryz.pinned (OpenSpec.upto courseUpkeepSpec)

/-- 'niblicklaw02.CourseOneArea', WHERE WHAT IT READS IS OF BULK AT MOST 1048576: true; the input reads as it did. -/
def courseOneAreaUptoRow : OpenClaim := { program := "ytmhbhlbnlmbhlaagreatdoor", sum := "5c3d89461ba456c7eb787db214ed251b24d84b931715c9ddb8994de07b8fb5d6", func := "niblick/niblicklaw02.CourseOneArea", spec := "courseOneArea", inPlace := ["math/bits.Add64", "math/bits.Sub64", "internal/abi.NoEscape", "internal/bytealg.MakeNoZero"], unfollowed := true, recurses := true, named := ["niblick/course.order", "math/bits.divideError", "math/bits.overflowError", "internal/strconv.uint64pow10", "math/bits.deBruijn32tab", "math/bits.deBruijn64tab"], plainKeys := false, apart := false, laid := [("math/bits.deBruijn32tab", laid_math_bits_deBruijn32tab), ("math/bits.deBruijn64tab", laid_math_bits_deBruijn64tab), ("internal/strconv.uint64pow10", laid_internal_strconv_uint64pow10), ("niblick/course.order", laid_niblick_course_order)], narrowed := true }
def CourseOneAreaUptoSaid : Prop := courseOneAreaUptoRow.holds Tryz.pinned (OpenSpec.upto courseOneAreaSpec)

/-- 'niblicklaw02.CourseNearest', WHERE WHAT IT READS IS OF BULK AT MOST 1048576: true; the input reads as it did. -/
def courseNearestUptoRow : OpenClaim := { program := "ytmhbhlbnlmbhlaagreatdoor", sum := "5c3d89461ba456c7eb787db214ed251b24d84b931715c9ddb8994de07b8fb5d6", func := "niblick/niblicklaw02.CourseNearest", spec := "courseNearest", inPlace := ["math/bits.Add64", "math/bits.Sub64", "internal/abi.NoEscape", "internal/bytealg.MakeNoZero"], unfollowed := true, recurses := true, named := ["niblick/course.order", "math/bits.divideError", "math/bits.overflowError", "internal/strconv.uint64pow10", "math/bits.deBruijn32tab", "math/bits.deBruijn64tab"], plainKeys := false, apart := false, laid := [("math/bits.deBruijn32tab", laid_math_bits_deBruijn32tab), ("math/bits.deBruijn64tab", laid_math_bits_deBruijn64tab), ("internal/strconv.uint64pow10", laid_internal_strconv_uint64pow10), ("niblick/course.order", laid_niblick_course_order)], narrowed := true }
def CourseNearestUptoSaid : Prop := courseNearestUptoRow.holds Tryz.pinned (OpenSpec.upto courseNearestSpec)

/-- 'niblicklaw02.CoursePolygons', WHERE WHAT IT READS IS OF BULK AT MOST 1048576: true; the input reads as it did. -/
def coursePolygonsUptoRow : OpenClaim := { program := "ytmhbhlbnlmbhlaagreatdoor", sum := "5c3d89461ba456c7eb787db214ed251b24d84b931715c9ddb8994de07b8fb5d6", func := "niblick/niblicklaw02.CoursePolygons", spec := "coursePolygons", inPlace := ["math/bits.Add64", "math/bits.Sub64", "internal/abi.NoEscape", "internal/bytealg.MakeNoZero"], unfollowed := true, recurses := true, named := ["niblick/course.order", "math/bits.divideError", "math/bits.overflowError", "internal/strconv.uint64pow10", "math/bits.deBruijn32tab", "math/bits.deBruijn64tab"], plainKeys := false, apart := false, laid := [("math/bits.deBruijn32tab", laid_math_bits_deBruijn32tab), ("math/bits.deBruijn64tab", laid_math_bits_deBruijn64tab), ("internal/strconv.uint64pow10", laid_internal_strconv_uint64pow10), ("niblick/course.order", laid_niblick_course_order)], narrowed := true }
def CoursePolygonsUptoSaid : Prop := coursePolygonsUptoRow.holds Tryz.pinned (OpenSpec.upto coursePolygonsSpec)

/-- 'niblicklaw02.CourseDays', WHERE WHAT IT READS IS OF BULK AT MOST 1048576: true; the input reads as it did. -/
def courseDaysUptoRow : OpenClaim := { program := "ytmhbhlbnlmbhlaagreatdoor", sum := "5c3d89461ba456c7eb787db214ed251b24d84b931715c9ddb8994de07b8fb5d6", func := "niblick/niblicklaw02.CourseDays", spec := "courseDays", inPlace := ["math/bits.Add64", "math/bits.Sub64", "internal/abi.NoEscape", "internal/bytealg.MakeNoZero"], unfollowed := true, recurses := true, named := ["niblick/course.order", "math/bits.divideError", "math/bits.overflowError", "internal/strconv.uint64pow10", "math/bits.deBruijn32tab", "math/bits.deBruijn64tab"], plainKeys := false, apart := false, laid := [("math/bits.deBruijn32tab", laid_math_bits_deBruijn32tab), ("math/bits.deBruijn64tab", laid_math_bits_deBruijn64tab), ("internal/strconv.uint64pow10", laid_internal_strconv_uint64pow10), ("niblick/course.order", laid_niblick_course_order)], narrowed := true }
def CourseDaysUptoSaid : Prop := courseDaysUptoRow.holds Tryz.pinned (OpenSpec.upto courseDaysSpec)

/-- 'niblicklaw02.CoursePlanned', WHERE WHAT IT READS IS OF BULK AT MOST 1048576: true; the input reads as it did. -/
def coursePlannedUptoRow : OpenClaim := { program := "ytmhbhlbnlmbhlaagreatdoor", sum := "5c3d89461ba456c7eb787db214ed251b24d84b931715c9ddb8994de07b8fb5d6", func := "niblick/niblicklaw02.CoursePlanned", spec := "coursePlanned", inPlace := ["math/bits.Add64", "math/bits.Sub64", "internal/abi.NoEscape", "internal/bytealg.MakeNoZero"], unfollowed := true, recurses := true, named := ["niblick/course.order", "math/bits.divideError", "math/bits.overflowError", "internal/strconv.uint64pow10", "math/bits.deBruijn32tab", "math/bits.deBruijn64tab"], plainKeys := false, apart := false, laid := [("math/bits.deBruijn32tab", laid_math_bits_deBruijn32tab), ("math/bits.deBruijn64tab", laid_math_bits_deBruijn64tab), ("internal/strconv.uint64pow10", laid_internal_strconv_uint64pow10), ("niblick/course.order", laid_niblick_course_order)], narrowed := true }
def CoursePlannedUptoSaid : Prop := coursePlannedUptoRow.holds Tryz.pinned (OpenSpec.upto coursePlannedSpec)

/-- 'niblicklaw02.CourseMoves', WHERE WHAT IT READS IS OF BULK AT MOST 1048576: true; the input reads as it did. -/
def courseMovesUptoRow : OpenClaim := { program := "ytmhbhlbnlmbhlaagreatdoor", sum := "5c3d89461ba456c7eb787db214ed251b24d84b931715c9ddb8994de07b8fb5d6", func := "niblick/niblicklaw02.CourseMoves", spec := "courseMoves", inPlace := ["math/bits.Add64", "math/bits.Sub64", "internal/abi.NoEscape", "internal/bytealg.MakeNoZero"], unfollowed := true, recurses := true, named := ["niblick/course.order", "math/bits.divideError", "math/bits.overflowError", "internal/strconv.uint64pow10", "math/bits.deBruijn32tab", "math/bits.deBruijn64tab"], plainKeys := false, apart := false, laid := [("math/bits.deBruijn32tab", laid_math_bits_deBruijn32tab), ("math/bits.deBruijn64tab", laid_math_bits_deBruijn64tab), ("internal/strconv.uint64pow10", laid_internal_strconv_uint64pow10), ("niblick/course.order", laid_niblick_course_order)], narrowed := true }
def CourseMovesUptoSaid : Prop := courseMovesUptoRow.holds Tryz.pinned (OpenSpec.upto courseMovesSpec)

/-- 'niblicklaw02.CourseKept', WHERE WHAT IT READS IS OF BULK AT MOST 1048576: true; the input reads as it did. -/
def courseKeptUptoRow : OpenClaim := { program := "ytmhbhlbnlmbhlaagreatdoor", sum := "5c3d89461ba456c7eb787db214ed251b24d84b931715c9ddb8994de07b8fb5d6", func := "niblick/niblicklaw02.CourseKept", spec := "courseKept", inPlace := ["math/bits.Add64", "math/bits.Sub64", "internal/abi.NoEscape", "internal/bytealg.MakeNoZero"], unfollowed := true, recurses := true, named := ["niblick/course.order", "math/bits.divideError", "math/bits.overflowError", "internal/strconv.uint64pow10", "math/bits.deBruijn32tab", "math/bits.deBruijn64tab"], plainKeys := false, apart := false, laid := [("math/bits.deBruijn32tab", laid_math_bits_deBruijn32tab), ("math/bits.deBruijn64tab", laid_math_bits_deBruijn64tab), ("internal/strconv.uint64pow10", laid_internal_strconv_uint64pow10), ("niblick/course.order", laid_niblick_course_order)], narrowed := true }
def CourseKeptUptoSaid : Prop := courseKeptUptoRow.holds Tryz.pinned (OpenSpec.upto courseKeptSpec)

/-- 'niblicklaw02.CourseTexts', WHERE WHAT IT READS IS OF BULK AT MOST 1048576: true; the input reads as it did. -/
def courseTextsUptoRow : OpenClaim := { program := "ytmhbhlbnlmbhlaagreatdoor", sum := "5c3d89461ba456c7eb787db214ed251b24d84b931715c9ddb8994de07b8fb5d6", func := "niblick/niblicklaw02.CourseTexts", spec := "courseTexts", inPlace := ["math/bits.Add64", "math/bits.Sub64", "internal/abi.NoEscape", "internal/bytealg.MakeNoZero", "internal/bytealg.CountString", "internal/bytealg.IndexByteString", "internal/bytealg.IndexString"], unfollowed := true, recurses := true, named := ["niblick/course.order", "math/bits.divideError", "math/bits.overflowError", "internal/strconv.uint64pow10", "math/bits.deBruijn32tab", "math/bits.deBruijn64tab", "unicode/utf8.first", "unicode/utf8.acceptRanges", "internal/bytealg.MaxLen", "strconv.ErrSyntax", "strconv.ErrRange"], plainKeys := false, apart := false, laid := [("math/bits.deBruijn32tab", laid_math_bits_deBruijn32tab), ("math/bits.deBruijn64tab", laid_math_bits_deBruijn64tab), ("internal/strconv.uint64pow10", laid_internal_strconv_uint64pow10), ("unicode/utf8.acceptRanges", laid_unicode_utf8_acceptRanges), ("strconv.ErrRange", laid_strconv_ErrRange), ("strconv.ErrSyntax", laid_strconv_ErrSyntax), ("niblick/course.order", laid_niblick_course_order), ("unicode/utf8.first", laid_unicode_utf8_first)], narrowed := true }
def CourseTextsUptoSaid : Prop := courseTextsUptoRow.holds Tryz.pinned (OpenSpec.upto courseTextsSpec)

end Rows
end Go.Proofs.YtmhbhlbnlmbhlaaGreatDoor
