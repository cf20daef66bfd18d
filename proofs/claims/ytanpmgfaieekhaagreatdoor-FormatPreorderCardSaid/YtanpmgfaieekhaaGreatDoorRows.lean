/-
  NARROWER THAN 'FOR EVERY INPUT', by the rows' own cells (each row's printed sentence says how): FormatGives: laid · FormatMatches: laid · FormatHandicaps: laid · FormatFourballs: laid · FormatTies: laid · FormatSums: laid · FormatPreorder: laid · FormatAlone: laid · FormatScores: laid · FormatSides: laid · FormatTurned: laid · FormatLeads: laid.
  DERIVED. THE GIVEN ROWS OF THIS SEAT. 12 by the template 'for every input the law returns true; each argument reads behind the call as it read before'; 0 by the template 'total and deterministic' (their statements: YtanpmgfaieekhaaGreatDoorTotals.lean).
  GIVEN WITH THE SEED: the statements are not yours to turn. If you find one false, say at which input.
  Laid BY PROGRAM, IN A SANDBOX (cutbox-rows.mjs): the forced cells as the released guide's own fill.sh prints them over the translation 6d48fbcf44fe7133… (all of the seat's roots in one cut). By AI agents, Wed Nov 11 2026. No macro, syntax, notation, axiom, sorry.
-/
import Derived.Test.YtanpmgfaieekhaaGreatDoorChecked
import GoSem.Claim
import GoSem.ClaimJoined
import GoSem.ClaimMapViews
import Derived.JoinedTies
import Derived.KernelRfl
namespace Go.Proofs.YtanpmgfaieekhaaGreatDoor
/- THE CELL 'sum', in the pinned program and in every row, IS THE sha256 OF THE DUMP (.gsa) THAT YtanpmgfaieekhaaGreatDoorProg.lean LOADS. Nothing in Lean hashes anything: it is a label: what it is worth is what the hold of that sum in a sandbox is worth. -/
noncomputable def Tryz.pinned : Pinned := { name := "ytanpmgfaieekhaagreatdoor", sum := "6d48fbcf44fe7133eb0908751a4bb70dab0846c331d58b8b11b6d231fed0338f", checked := Tryz.checked }
namespace Rows
def none {H : Type} : Left H := { results := [], args := [] }

/- WHAT THE LISTED PACKAGE-LEVEL VARIABLES READ AS WHEN THE CALL BEGINS. Each datum BY PROGRAM (the guide's laid-datum.mjs) off the statement by which the dump's own 'gosem.cut.vars' lays the variable. In a bare row this is a premise. The card (YtanpmgfaieekhaaGreatDoorCards.lean) ties it to the program's text. -/
def laid_math_bits_deBruijn32tab {H : Type} : DataW H := .agg [.lit (.int .u8 0), .lit (.int .u8 1), .lit (.int .u8 28), .lit (.int .u8 2), .lit (.int .u8 29), .lit (.int .u8 14), .lit (.int .u8 24), .lit (.int .u8 3), .lit (.int .u8 30), .lit (.int .u8 22), .lit (.int .u8 20), .lit (.int .u8 15), .lit (.int .u8 25), .lit (.int .u8 17), .lit (.int .u8 4), .lit (.int .u8 8), .lit (.int .u8 31), .lit (.int .u8 27), .lit (.int .u8 13), .lit (.int .u8 23), .lit (.int .u8 21), .lit (.int .u8 19), .lit (.int .u8 16), .lit (.int .u8 7), .lit (.int .u8 26), .lit (.int .u8 12), .lit (.int .u8 18), .lit (.int .u8 6), .lit (.int .u8 11), .lit (.int .u8 5), .lit (.int .u8 10), .lit (.int .u8 9)]
def laid_math_bits_deBruijn64tab {H : Type} : DataW H := .agg [.lit (.int .u8 0), .lit (.int .u8 1), .lit (.int .u8 56), .lit (.int .u8 2), .lit (.int .u8 57), .lit (.int .u8 49), .lit (.int .u8 28), .lit (.int .u8 3), .lit (.int .u8 61), .lit (.int .u8 58), .lit (.int .u8 42), .lit (.int .u8 50), .lit (.int .u8 38), .lit (.int .u8 29), .lit (.int .u8 17), .lit (.int .u8 4), .lit (.int .u8 62), .lit (.int .u8 47), .lit (.int .u8 59), .lit (.int .u8 36), .lit (.int .u8 45), .lit (.int .u8 43), .lit (.int .u8 51), .lit (.int .u8 22), .lit (.int .u8 53), .lit (.int .u8 39), .lit (.int .u8 33), .lit (.int .u8 30), .lit (.int .u8 24), .lit (.int .u8 18), .lit (.int .u8 12), .lit (.int .u8 5), .lit (.int .u8 63), .lit (.int .u8 55), .lit (.int .u8 48), .lit (.int .u8 27), .lit (.int .u8 60), .lit (.int .u8 41), .lit (.int .u8 37), .lit (.int .u8 16), .lit (.int .u8 46), .lit (.int .u8 35), .lit (.int .u8 44), .lit (.int .u8 21), .lit (.int .u8 52), .lit (.int .u8 32), .lit (.int .u8 23), .lit (.int .u8 11), .lit (.int .u8 54), .lit (.int .u8 26), .lit (.int .u8 40), .lit (.int .u8 15), .lit (.int .u8 34), .lit (.int .u8 20), .lit (.int .u8 31), .lit (.int .u8 10), .lit (.int .u8 25), .lit (.int .u8 14), .lit (.int .u8 19), .lit (.int .u8 9), .lit (.int .u8 13), .lit (.int .u8 8), .lit (.int .u8 7), .lit (.int .u8 6)]
def laid_internal_strconv_uint64pow10 {H : Type} : DataW H := .agg [.lit (.int .u64 1), .lit (.int .u64 10), .lit (.int .u64 100), .lit (.int .u64 1000), .lit (.int .u64 10000), .lit (.int .u64 100000), .lit (.int .u64 1000000), .lit (.int .u64 10000000), .lit (.int .u64 100000000), .lit (.int .u64 1000000000), .lit (.int .u64 10000000000), .lit (.int .u64 100000000000), .lit (.int .u64 1000000000000), .lit (.int .u64 10000000000000), .lit (.int .u64 100000000000000), .lit (.int .u64 1000000000000000), .lit (.int .u64 10000000000000000), .lit (.int .u64 100000000000000000), .lit (.int .u64 1000000000000000000), .lit (.int .u64 10000000000000000000)]

/-- 'niblicklaw05.FormatGives': WHATEVER THE INPUT: true; the input reads as it did. -/
def formatGivesSpec : ChangeSpec := { name := "formatGives", fn := fun _ => fun
  | [d1, d2] => { results := [.lit (.bool true)], args := [d1, d2] }
  | _ => none }
def formatGivesRow : OpenClaim := { program := "ytanpmgfaieekhaagreatdoor", sum := "6d48fbcf44fe7133eb0908751a4bb70dab0846c331d58b8b11b6d231fed0338f", func := "niblick/niblicklaw05.FormatGives", spec := "formatGives", unfollowed := true, recurses := true, named := ["internal/strconv.uint64pow10", "math/bits.deBruijn32tab", "math/bits.deBruijn64tab"], apart := false, laid := [("math/bits.deBruijn32tab", laid_math_bits_deBruijn32tab), ("math/bits.deBruijn64tab", laid_math_bits_deBruijn64tab), ("internal/strconv.uint64pow10", laid_internal_strconv_uint64pow10)] }
def FormatGivesSaid : Prop := formatGivesRow.holds Tryz.pinned (OpenSpec.ofChange formatGivesSpec)

/-- ITS FALSE NEIGHBOUR: 'it returns false'. Refute it at one input. -/
def formatGivesWrong : ChangeSpec := { name := "formatGives", fn := fun _ => fun
  | [d1, d2] => { results := [.lit (.bool false)], args := [d1, d2] }
  | _ => none }
def FormatGivesWrongFalsely : Prop := formatGivesRow.holds Tryz.pinned (OpenSpec.ofChange formatGivesWrong)

/-- 'niblicklaw05.FormatMatches': WHATEVER THE INPUT: true; the input reads as it did. -/
def formatMatchesSpec : ChangeSpec := { name := "formatMatches", fn := fun _ => fun
  | [d1, d2, d3] => { results := [.lit (.bool true)], args := [d1, d2, d3] }
  | _ => none }
def formatMatchesRow : OpenClaim := { program := "ytanpmgfaieekhaagreatdoor", sum := "6d48fbcf44fe7133eb0908751a4bb70dab0846c331d58b8b11b6d231fed0338f", func := "niblick/niblicklaw05.FormatMatches", spec := "formatMatches", unfollowed := true, recurses := true, named := ["internal/strconv.uint64pow10", "math/bits.deBruijn32tab", "math/bits.deBruijn64tab"], apart := false, laid := [("math/bits.deBruijn32tab", laid_math_bits_deBruijn32tab), ("math/bits.deBruijn64tab", laid_math_bits_deBruijn64tab), ("internal/strconv.uint64pow10", laid_internal_strconv_uint64pow10)] }
def FormatMatchesSaid : Prop := formatMatchesRow.holds Tryz.pinned (OpenSpec.ofChange formatMatchesSpec)

/-- ITS FALSE NEIGHBOUR: 'it returns false'. Refute it at one input. -/
def formatMatchesWrong : ChangeSpec := { name := "formatMatches", fn := fun _ => fun
  | [d1, d2, d3] => { results := [.lit (.bool false)], args := [d1, d2, d3] }
  | _ => none }
def FormatMatchesWrongFalsely : Prop := formatMatchesRow.holds Tryz.pinned (OpenSpec.ofChange formatMatchesWrong)

/-- 'niblicklaw05.FormatHandicaps': WHATEVER THE INPUT: true; the input reads as it did. -/
def formatHandicapsSpec : ChangeSpec := { name := "formatHandicaps", fn := fun _ => fun
  | [d1, d2] => { results := [.lit (.bool true)], args := [d1, d2] }
  | _ => none }
def formatHandicapsRow : OpenClaim := { program := "ytanpmgfaieekhaagreatdoor", sum := "6d48fbcf44fe7133eb0908751a4bb70dab0846c331d58b8b11b6d231fed0338f", func := "niblick/niblicklaw05.FormatHandicaps", spec := "formatHandicaps", unfollowed := true, recurses := true, named := ["internal/strconv.uint64pow10", "math/bits.deBruijn32tab", "math/bits.deBruijn64tab"], apart := false, laid := [("math/bits.deBruijn32tab", laid_math_bits_deBruijn32tab), ("math/bits.deBruijn64tab", laid_math_bits_deBruijn64tab), ("internal/strconv.uint64pow10", laid_internal_strconv_uint64pow10)] }
def FormatHandicapsSaid : Prop := formatHandicapsRow.holds Tryz.pinned (OpenSpec.ofChange formatHandicapsSpec)

/-- ITS FALSE NEIGHBOUR: 'it returns false'. Refute it at one input. -/
def formatHandicapsWrong : ChangeSpec := { name := "formatHandicaps", fn := fun _ => fun
  | [d1, d2] => { results := [.lit (.bool false)], args := [d1, d2] }
  | _ => none }
def FormatHandicapsWrongFalsely : Prop := formatHandicapsRow.holds Tryz.pinned (OpenSpec.ofChange formatHandicapsWrong)

/-- 'niblicklaw05.FormatFourballs': WHATEVER THE INPUT: true; the input reads as it did. -/
def formatFourballsSpec : ChangeSpec := { name := "formatFourballs", fn := fun _ => fun
  | [d1, d2] => { results := [.lit (.bool true)], args := [d1, d2] }
  | _ => none }
def formatFourballsRow : OpenClaim := { program := "ytanpmgfaieekhaagreatdoor", sum := "6d48fbcf44fe7133eb0908751a4bb70dab0846c331d58b8b11b6d231fed0338f", func := "niblick/niblicklaw05.FormatFourballs", spec := "formatFourballs", unfollowed := true, recurses := true, named := ["internal/strconv.uint64pow10", "math/bits.deBruijn32tab", "math/bits.deBruijn64tab"], apart := false, laid := [("math/bits.deBruijn32tab", laid_math_bits_deBruijn32tab), ("math/bits.deBruijn64tab", laid_math_bits_deBruijn64tab), ("internal/strconv.uint64pow10", laid_internal_strconv_uint64pow10)] }
def FormatFourballsSaid : Prop := formatFourballsRow.holds Tryz.pinned (OpenSpec.ofChange formatFourballsSpec)

/-- ITS FALSE NEIGHBOUR: 'it returns false'. Refute it at one input. -/
def formatFourballsWrong : ChangeSpec := { name := "formatFourballs", fn := fun _ => fun
  | [d1, d2] => { results := [.lit (.bool false)], args := [d1, d2] }
  | _ => none }
def FormatFourballsWrongFalsely : Prop := formatFourballsRow.holds Tryz.pinned (OpenSpec.ofChange formatFourballsWrong)

/-- 'niblicklaw05.FormatTies': WHATEVER THE INPUT: true; the input reads as it did. -/
def formatTiesSpec : ChangeSpec := { name := "formatTies", fn := fun _ => fun
  | [d1, d2, d3] => { results := [.lit (.bool true)], args := [d1, d2, d3] }
  | _ => none }
def formatTiesRow : OpenClaim := { program := "ytanpmgfaieekhaagreatdoor", sum := "6d48fbcf44fe7133eb0908751a4bb70dab0846c331d58b8b11b6d231fed0338f", func := "niblick/niblicklaw05.FormatTies", spec := "formatTies", unfollowed := true, recurses := true, named := ["internal/strconv.uint64pow10", "math/bits.deBruijn32tab", "math/bits.deBruijn64tab"], apart := false, laid := [("math/bits.deBruijn32tab", laid_math_bits_deBruijn32tab), ("math/bits.deBruijn64tab", laid_math_bits_deBruijn64tab), ("internal/strconv.uint64pow10", laid_internal_strconv_uint64pow10)] }
def FormatTiesSaid : Prop := formatTiesRow.holds Tryz.pinned (OpenSpec.ofChange formatTiesSpec)

/-- ITS FALSE NEIGHBOUR: 'it returns false'. Refute it at one input. -/
def formatTiesWrong : ChangeSpec := { name := "formatTies", fn := fun _ => fun
  | [d1, d2, d3] => { results := [.lit (.bool false)], args := [d1, d2, d3] }
  | _ => none }
def FormatTiesWrongFalsely : Prop := formatTiesRow.holds Tryz.pinned (OpenSpec.ofChange formatTiesWrong)

/-- 'niblicklaw05.FormatSums': WHATEVER THE INPUT: true; the input reads as it did. -/
def formatSumsSpec : ChangeSpec := { name := "formatSums", fn := fun _ => fun
  | [d1, d2] => { results := [.lit (.bool true)], args := [d1, d2] }
  | _ => none }
def formatSumsRow : OpenClaim := { program := "ytanpmgfaieekhaagreatdoor", sum := "6d48fbcf44fe7133eb0908751a4bb70dab0846c331d58b8b11b6d231fed0338f", func := "niblick/niblicklaw05.FormatSums", spec := "formatSums", unfollowed := true, recurses := true, named := ["internal/strconv.uint64pow10", "math/bits.deBruijn32tab", "math/bits.deBruijn64tab"], apart := false, laid := [("math/bits.deBruijn32tab", laid_math_bits_deBruijn32tab), ("math/bits.deBruijn64tab", laid_math_bits_deBruijn64tab), ("internal/strconv.uint64pow10", laid_internal_strconv_uint64pow10)] }
def FormatSumsSaid : Prop := formatSumsRow.holds Tryz.pinned (OpenSpec.ofChange formatSumsSpec)

/-- ITS FALSE NEIGHBOUR: 'it returns false'. Refute it at one input. -/
def formatSumsWrong : ChangeSpec := { name := "formatSums", fn := fun _ => fun
  | [d1, d2] => { results := [.lit (.bool false)], args := [d1, d2] }
  | _ => none }
def FormatSumsWrongFalsely : Prop := formatSumsRow.holds Tryz.pinned (OpenSpec.ofChange formatSumsWrong)

/-- 'niblicklaw05.FormatPreorder': WHATEVER THE INPUT: true; the input reads as it did. -/
def formatPreorderSpec : ChangeSpec := { name := "formatPreorder", fn := fun _ => fun
  | [d] => { results := [.lit (.bool true)], args := [d] }
  | _ => none }
def formatPreorderRow : OpenClaim := { program := "ytanpmgfaieekhaagreatdoor", sum := "6d48fbcf44fe7133eb0908751a4bb70dab0846c331d58b8b11b6d231fed0338f", func := "niblick/niblicklaw05.FormatPreorder", spec := "formatPreorder", unfollowed := true, recurses := true, named := ["internal/strconv.uint64pow10", "math/bits.deBruijn32tab", "math/bits.deBruijn64tab"], apart := false, laid := [("math/bits.deBruijn32tab", laid_math_bits_deBruijn32tab), ("math/bits.deBruijn64tab", laid_math_bits_deBruijn64tab), ("internal/strconv.uint64pow10", laid_internal_strconv_uint64pow10)] }
def FormatPreorderSaid : Prop := formatPreorderRow.holds Tryz.pinned (OpenSpec.ofChange formatPreorderSpec)

/-- ITS FALSE NEIGHBOUR: 'it returns false'. Refute it at one input. -/
def formatPreorderWrong : ChangeSpec := { name := "formatPreorder", fn := fun _ => fun
  | [d] => { results := [.lit (.bool false)], args := [d] }
  | _ => none }
def FormatPreorderWrongFalsely : Prop := formatPreorderRow.holds Tryz.pinned (OpenSpec.ofChange formatPreorderWrong)

/-- 'niblicklaw05.FormatAlone': WHATEVER THE INPUT: true; the input reads as it did. -/
def formatAloneSpec : ChangeSpec := { name := "formatAlone", fn := fun _ => fun
  | [d1, d2, d3] => { results := [.lit (.bool true)], args := [d1, d2, d3] }
  | _ => none }
def formatAloneRow : OpenClaim := { program := "ytanpmgfaieekhaagreatdoor", sum := "6d48fbcf44fe7133eb0908751a4bb70dab0846c331d58b8b11b6d231fed0338f", func := "niblick/niblicklaw05.FormatAlone", spec := "formatAlone", unfollowed := true, recurses := true, named := ["internal/strconv.uint64pow10", "math/bits.deBruijn32tab", "math/bits.deBruijn64tab"], apart := false, laid := [("math/bits.deBruijn32tab", laid_math_bits_deBruijn32tab), ("math/bits.deBruijn64tab", laid_math_bits_deBruijn64tab), ("internal/strconv.uint64pow10", laid_internal_strconv_uint64pow10)] }
def FormatAloneSaid : Prop := formatAloneRow.holds Tryz.pinned (OpenSpec.ofChange formatAloneSpec)

/-- ITS FALSE NEIGHBOUR: 'it returns false'. Refute it at one input. -/
def formatAloneWrong : ChangeSpec := { name := "formatAlone", fn := fun _ => fun
  | [d1, d2, d3] => { results := [.lit (.bool false)], args := [d1, d2, d3] }
  | _ => none }
def FormatAloneWrongFalsely : Prop := formatAloneRow.holds Tryz.pinned (OpenSpec.ofChange formatAloneWrong)

/-- 'niblicklaw05.FormatScores': WHATEVER THE INPUT: true; the input reads as it did. -/
def formatScoresSpec : ChangeSpec := { name := "formatScores", fn := fun _ => fun
  | [d1, d2] => { results := [.lit (.bool true)], args := [d1, d2] }
  | _ => none }
def formatScoresRow : OpenClaim := { program := "ytanpmgfaieekhaagreatdoor", sum := "6d48fbcf44fe7133eb0908751a4bb70dab0846c331d58b8b11b6d231fed0338f", func := "niblick/niblicklaw05.FormatScores", spec := "formatScores", unfollowed := true, recurses := true, named := ["internal/strconv.uint64pow10", "math/bits.deBruijn32tab", "math/bits.deBruijn64tab"], apart := false, laid := [("math/bits.deBruijn32tab", laid_math_bits_deBruijn32tab), ("math/bits.deBruijn64tab", laid_math_bits_deBruijn64tab), ("internal/strconv.uint64pow10", laid_internal_strconv_uint64pow10)] }
def FormatScoresSaid : Prop := formatScoresRow.holds Tryz.pinned (OpenSpec.ofChange formatScoresSpec)

/-- ITS FALSE NEIGHBOUR: 'it returns false'. Refute it at one input. -/
def formatScoresWrong : ChangeSpec := { name := "formatScores", fn := fun _ => fun
  | [d1, d2] => { results := [.lit (.bool false)], args := [d1, d2] }
  | _ => none }
def FormatScoresWrongFalsely : Prop := formatScoresRow.holds Tryz.pinned (OpenSpec.ofChange formatScoresWrong)

/-- 'niblicklaw05.FormatSides': WHATEVER THE INPUT: true; the input reads as it did. -/
def formatSidesSpec : ChangeSpec := { name := "formatSides", fn := fun _ => fun
  | [d1, d2, d3] => { results := [.lit (.bool true)], args := [d1, d2, d3] }
  | _ => none }
def formatSidesRow : OpenClaim := { program := "ytanpmgfaieekhaagreatdoor", sum := "6d48fbcf44fe7133eb0908751a4bb70dab0846c331d58b8b11b6d231fed0338f", func := "niblick/niblicklaw05.FormatSides", spec := "formatSides", unfollowed := true, recurses := true, named := ["internal/strconv.uint64pow10", "math/bits.deBruijn32tab", "math/bits.deBruijn64tab"], apart := false, laid := [("math/bits.deBruijn32tab", laid_math_bits_deBruijn32tab), ("math/bits.deBruijn64tab", laid_math_bits_deBruijn64tab), ("internal/strconv.uint64pow10", laid_internal_strconv_uint64pow10)] }
def FormatSidesSaid : Prop := formatSidesRow.holds Tryz.pinned (OpenSpec.ofChange formatSidesSpec)

/-- ITS FALSE NEIGHBOUR: 'it returns false'. Refute it at one input. -/
def formatSidesWrong : ChangeSpec := { name := "formatSides", fn := fun _ => fun
  | [d1, d2, d3] => { results := [.lit (.bool false)], args := [d1, d2, d3] }
  | _ => none }
def FormatSidesWrongFalsely : Prop := formatSidesRow.holds Tryz.pinned (OpenSpec.ofChange formatSidesWrong)

/-- 'niblicklaw05.FormatTurned': WHATEVER THE INPUT: true; the input reads as it did. -/
def formatTurnedSpec : ChangeSpec := { name := "formatTurned", fn := fun _ => fun
  | [d1, d2, d3] => { results := [.lit (.bool true)], args := [d1, d2, d3] }
  | _ => none }
def formatTurnedRow : OpenClaim := { program := "ytanpmgfaieekhaagreatdoor", sum := "6d48fbcf44fe7133eb0908751a4bb70dab0846c331d58b8b11b6d231fed0338f", func := "niblick/niblicklaw05.FormatTurned", spec := "formatTurned", unfollowed := true, recurses := true, named := ["internal/strconv.uint64pow10", "math/bits.deBruijn32tab", "math/bits.deBruijn64tab"], apart := false, laid := [("math/bits.deBruijn32tab", laid_math_bits_deBruijn32tab), ("math/bits.deBruijn64tab", laid_math_bits_deBruijn64tab), ("internal/strconv.uint64pow10", laid_internal_strconv_uint64pow10)] }
def FormatTurnedSaid : Prop := formatTurnedRow.holds Tryz.pinned (OpenSpec.ofChange formatTurnedSpec)

/-- ITS FALSE NEIGHBOUR: 'it returns false'. Refute it at one input. -/
def formatTurnedWrong : ChangeSpec := { name := "formatTurned", fn := fun _ => fun
  | [d1, d2, d3] => { results := [.lit (.bool false)], args := [d1, d2, d3] }
  | _ => none }
def FormatTurnedWrongFalsely : Prop := formatTurnedRow.holds Tryz.pinned (OpenSpec.ofChange formatTurnedWrong)

/-- 'niblicklaw05.FormatLeads': WHATEVER THE INPUT: true; the input reads as it did. -/
def formatLeadsSpec : ChangeSpec := { name := "formatLeads", fn := fun _ => fun
  | [d1, d2] => { results := [.lit (.bool true)], args := [d1, d2] }
  | _ => none }
def formatLeadsRow : OpenClaim := { program := "ytanpmgfaieekhaagreatdoor", sum := "6d48fbcf44fe7133eb0908751a4bb70dab0846c331d58b8b11b6d231fed0338f", func := "niblick/niblicklaw05.FormatLeads", spec := "formatLeads", unfollowed := true, recurses := true, named := ["internal/strconv.uint64pow10", "math/bits.deBruijn32tab", "math/bits.deBruijn64tab"], apart := false, laid := [("math/bits.deBruijn32tab", laid_math_bits_deBruijn32tab), ("math/bits.deBruijn64tab", laid_math_bits_deBruijn64tab), ("internal/strconv.uint64pow10", laid_internal_strconv_uint64pow10)] }
def FormatLeadsSaid : Prop := formatLeadsRow.holds Tryz.pinned (OpenSpec.ofChange formatLeadsSpec)

/-- ITS FALSE NEIGHBOUR: 'it returns false'. Refute it at one input. -/
def formatLeadsWrong : ChangeSpec := { name := "formatLeads", fn := fun _ => fun
  | [d1, d2] => { results := [.lit (.bool false)], args := [d1, d2] }
  | _ => none }
def FormatLeadsWrongFalsely : Prop := formatLeadsRow.holds Tryz.pinned (OpenSpec.ofChange formatLeadsWrong)

/- THE SECOND FORM. 'bulk': how many values and letters a reading holds, each counted each time it is reached (what is shared counts as often as it is met; a slice's spare places count too). A statement '..UptoSaid' is the law's where the arguments, and the package variables that the reading takes, are together of bulk at most 1048576: NARROWER than '..Said'. Prove '..Said' where nothing that the law and all that it calls make is longer than what came in: it says more and counts as full. Else prove '..UptoSaid'. A law counts once. -/
mutual
def uptoBulk {H : Type} : DataW H → Nat
  | .lit (.string bytes) => bytes.length + 1
  | .lit _ => 1
  | .nil => 1
  | .ptr d => uptoBulk d + 1
  | .slice elems spare => uptoBulkAll elems + uptoBulkAll spare + 1
  | .agg parts => uptoBulkAll parts + 1
  | .iface _ d => uptoBulk d + 1
  | .map entries => uptoBulkEntries entries + 1
  | .held _ => 1
def uptoBulkAll {H : Type} : List (DataW H) → Nat
  | [] => 0
  | d :: r => uptoBulk d + uptoBulkAll r
def uptoBulkEntries {H : Type} : List (Lit × DataW H) → Nat
  | [] => 0
  | x :: r => uptoBulkEntry x + uptoBulkEntries r
def uptoBulkEntry {H : Type} : Lit × DataW H → Nat
  | (.string bytes, d) => bytes.length + uptoBulk d + 1
  | (_, d) => uptoBulk d + 1
 end
def uptoSmall : (H : Type) → List (DataW H) → Bool := fun _ ds => decide (uptoBulkAll ds ≤ 1048576)
def OpenSpec.upto (s : _root_.Go.ChangeSpec) : _root_.Go.OpenSpec := { _root_.Go.OpenSpec.ofChange s with cond := some uptoSmall }

/-- 'niblicklaw05.FormatGives', WHERE WHAT IT READS IS OF BULK AT MOST 1048576: true; the input reads as it did. -/
def formatGivesUptoRow : OpenClaim := { program := "ytanpmgfaieekhaagreatdoor", sum := "6d48fbcf44fe7133eb0908751a4bb70dab0846c331d58b8b11b6d231fed0338f", func := "niblick/niblicklaw05.FormatGives", spec := "formatGives", unfollowed := true, recurses := true, named := ["internal/strconv.uint64pow10", "math/bits.deBruijn32tab", "math/bits.deBruijn64tab"], apart := false, laid := [("math/bits.deBruijn32tab", laid_math_bits_deBruijn32tab), ("math/bits.deBruijn64tab", laid_math_bits_deBruijn64tab), ("internal/strconv.uint64pow10", laid_internal_strconv_uint64pow10)], narrowed := true }
def FormatGivesUptoSaid : Prop := formatGivesUptoRow.holds Tryz.pinned (OpenSpec.upto formatGivesSpec)

/-- 'niblicklaw05.FormatMatches', WHERE WHAT IT READS IS OF BULK AT MOST 1048576: true; the input reads as it did. -/
def formatMatchesUptoRow : OpenClaim := { program := "ytanpmgfaieekhaagreatdoor", sum := "6d48fbcf44fe7133eb0908751a4bb70dab0846c331d58b8b11b6d231fed0338f", func := "niblick/niblicklaw05.FormatMatches", spec := "formatMatches", unfollowed := true, recurses := true, named := ["internal/strconv.uint64pow10", "math/bits.deBruijn32tab", "math/bits.deBruijn64tab"], apart := false, laid := [("math/bits.deBruijn32tab", laid_math_bits_deBruijn32tab), ("math/bits.deBruijn64tab", laid_math_bits_deBruijn64tab), ("internal/strconv.uint64pow10", laid_internal_strconv_uint64pow10)], narrowed := true }
def FormatMatchesUptoSaid : Prop := formatMatchesUptoRow.holds Tryz.pinned (OpenSpec.upto formatMatchesSpec)

/-- 'niblicklaw05.FormatHandicaps', WHERE WHAT IT READS IS OF BULK AT MOST 1048576: true; the input reads as it did. -/
def formatHandicapsUptoRow : OpenClaim := { program := "ytanpmgfaieekhaagreatdoor", sum := "6d48fbcf44fe7133eb0908751a4bb70dab0846c331d58b8b11b6d231fed0338f", func := "niblick/niblicklaw05.FormatHandicaps", spec := "formatHandicaps", unfollowed := true, recurses := true, named := ["internal/strconv.uint64pow10", "math/bits.deBruijn32tab", "math/bits.deBruijn64tab"], apart := false, laid := [("math/bits.deBruijn32tab", laid_math_bits_deBruijn32tab), ("math/bits.deBruijn64tab", laid_math_bits_deBruijn64tab), ("internal/strconv.uint64pow10", laid_internal_strconv_uint64pow10)], narrowed := true }
def FormatHandicapsUptoSaid : Prop := formatHandicapsUptoRow.holds Tryz.pinned (OpenSpec.upto formatHandicapsSpec)

/-- 'niblicklaw05.FormatFourballs', WHERE WHAT IT READS IS OF BULK AT MOST 1048576: true; the input reads as it did. -/
def formatFourballsUptoRow : OpenClaim := { program := "ytanpmgfaieekhaagreatdoor", sum := "6d48fbcf44fe7133eb0908751a4bb70dab0846c331d58b8b11b6d231fed0338f", func := "niblick/niblicklaw05.FormatFourballs", spec := "formatFourballs", unfollowed := true, recurses := true, named := ["internal/strconv.uint64pow10", "math/bits.deBruijn32tab", "math/bits.deBruijn64tab"], apart := false, laid := [("math/bits.deBruijn32tab", laid_math_bits_deBruijn32tab), ("math/bits.deBruijn64tab", laid_math_bits_deBruijn64tab), ("internal/strconv.uint64pow10", laid_internal_strconv_uint64pow10)], narrowed := true }
def FormatFourballsUptoSaid : Prop := formatFourballsUptoRow.holds Tryz.pinned (OpenSpec.upto formatFourballsSpec)

/-- 'niblicklaw05.FormatTies', WHERE WHAT IT READS IS OF BULK AT MOST 1048576: true; the input reads as it did. -/
def formatTiesUptoRow : OpenClaim := { program := "ytanpmgfaieekhaagreatdoor", sum := "6d48fbcf44fe7133eb0908751a4bb70dab0846c331d58b8b11b6d231fed0338f", func := "niblick/niblicklaw05.FormatTies", spec := "formatTies", unfollowed := true, recurses := true, named := ["internal/strconv.uint64pow10", "math/bits.deBruijn32tab", "math/bits.deBruijn64tab"], apart := false, laid := [("math/bits.deBruijn32tab", laid_math_bits_deBruijn32tab), ("math/bits.deBruijn64tab", laid_math_bits_deBruijn64tab), ("internal/strconv.uint64pow10", laid_internal_strconv_uint64pow10)], narrowed := true }
def FormatTiesUptoSaid : Prop := formatTiesUptoRow.holds Tryz.pinned (OpenSpec.upto formatTiesSpec)

/-- 'niblicklaw05.FormatSums', WHERE WHAT IT READS IS OF BULK AT MOST 1048576: true; the input reads as it did. -/
def formatSumsUptoRow : OpenClaim := { program := "ytanpmgfaieekhaagreatdoor", sum := "6d48fbcf44fe7133eb0908751a4bb70dab0846c331d58b8b11b6d231fed0338f", func := "niblick/niblicklaw05.FormatSums", spec := "formatSums", unfollowed := true, recurses := true, named := ["internal/strconv.uint64pow10", "math/bits.deBruijn32tab", "math/bits.deBruijn64tab"], apart := false, laid := [("math/bits.deBruijn32tab", laid_math_bits_deBruijn32tab), ("math/bits.deBruijn64tab", laid_math_bits_deBruijn64tab), ("internal/strconv.uint64pow10", laid_internal_strconv_uint64pow10)], narrowed := true }
def FormatSumsUptoSaid : Prop := formatSumsUptoRow.holds Tryz.pinned (OpenSpec.upto formatSumsSpec)

/-- 'niblicklaw05.FormatPreorder', WHERE WHAT IT READS IS OF BULK AT MOST 1048576: true; the input reads as it did. -/
def formatPreorderUptoRow : OpenClaim := { program := "ytanpmgfaieekhaagreatdoor", sum := "6d48fbcf44fe7133eb0908751a4bb70dab0846c331d58b8b11b6d231fed0338f", func := "niblick/niblicklaw05.FormatPreorder", spec := "formatPreorder", unfollowed := true, recurses := true, named := ["internal/strconv.uint64pow10", "math/bits.deBruijn32tab", "math/bits.deBruijn64tab"], apart := false, laid := [("math/bits.deBruijn32tab", laid_math_bits_deBruijn32tab), ("math/bits.deBruijn64tab", laid_math_bits_deBruijn64tab), ("internal/strconv.uint64pow10", laid_internal_strconv_uint64pow10)], narrowed := true }
def FormatPreorderUptoSaid : Prop := formatPreorderUptoRow.holds Tryz.pinned (OpenSpec.upto formatPreorderSpec)

/-- 'niblicklaw05.FormatAlone', WHERE WHAT IT READS IS OF BULK AT MOST 1048576: true; the input reads as it did. -/
def formatAloneUptoRow : OpenClaim := { program := "ytanpmgfaieekhaagreatdoor", sum := "6d48fbcf44fe7133eb0908751a4bb70dab0846c331d58b8b11b6d231fed0338f", func := "niblick/niblicklaw05.FormatAlone", spec := "formatAlone", unfollowed := true, recurses := true, named := ["internal/strconv.uint64pow10", "math/bits.deBruijn32tab", "math/bits.deBruijn64tab"], apart := false, laid := [("math/bits.deBruijn32tab", laid_math_bits_deBruijn32tab), ("math/bits.deBruijn64tab", laid_math_bits_deBruijn64tab), ("internal/strconv.uint64pow10", laid_internal_strconv_uint64pow10)], narrowed := true }
def FormatAloneUptoSaid : Prop := formatAloneUptoRow.holds Tryz.pinned (OpenSpec.upto formatAloneSpec)

/-- 'niblicklaw05.FormatScores', WHERE WHAT IT READS IS OF BULK AT MOST 1048576: true; the input reads as it did. -/
def formatScoresUptoRow : OpenClaim := { program := "ytanpmgfaieekhaagreatdoor", sum := "6d48fbcf44fe7133eb0908751a4bb70dab0846c331d58b8b11b6d231fed0338f", func := "niblick/niblicklaw05.FormatScores", spec := "formatScores", unfollowed := true, recurses := true, named := ["internal/strconv.uint64pow10", "math/bits.deBruijn32tab", "math/bits.deBruijn64tab"], apart := false, laid := [("math/bits.deBruijn32tab", laid_math_bits_deBruijn32tab), ("math/bits.deBruijn64tab", laid_math_bits_deBruijn64tab), ("internal/strconv.uint64pow10", laid_internal_strconv_uint64pow10)], narrowed := true }
def FormatScoresUptoSaid : Prop := formatScoresUptoRow.holds Tryz.pinned (OpenSpec.upto formatScoresSpec)

/-- 'niblicklaw05.FormatSides', WHERE WHAT IT READS IS OF BULK AT MOST 1048576: true; the input reads as it did. -/
def formatSidesUptoRow : OpenClaim := { program := "ytanpmgfaieekhaagreatdoor", sum := "6d48fbcf44fe7133eb0908751a4bb70dab0846c331d58b8b11b6d231fed0338f", func := "niblick/niblicklaw05.FormatSides", spec := "formatSides", unfollowed := true, recurses := true, named := ["internal/strconv.uint64pow10", "math/bits.deBruijn32tab", "math/bits.deBruijn64tab"], apart := false, laid := [("math/bits.deBruijn32tab", laid_math_bits_deBruijn32tab), ("math/bits.deBruijn64tab", laid_math_bits_deBruijn64tab), ("internal/strconv.uint64pow10", laid_internal_strconv_uint64pow10)], narrowed := true }
def FormatSidesUptoSaid : Prop := formatSidesUptoRow.holds Tryz.pinned (OpenSpec.upto formatSidesSpec)

/-- 'niblicklaw05.FormatTurned', WHERE WHAT IT READS IS OF BULK AT MOST 1048576: true; the input reads as it did. -/
def formatTurnedUptoRow : OpenClaim := { program := "ytanpmgfaieekhaagreatdoor", sum := "6d48fbcf44fe7133eb0908751a4bb70dab0846c331d58b8b11b6d231fed0338f", func := "niblick/niblicklaw05.FormatTurned", spec := "formatTurned", unfollowed := true, recurses := true, named := ["internal/strconv.uint64pow10", "math/bits.deBruijn32tab", "math/bits.deBruijn64tab"], apart := false, laid := [("math/bits.deBruijn32tab", laid_math_bits_deBruijn32tab), ("math/bits.deBruijn64tab", laid_math_bits_deBruijn64tab), ("internal/strconv.uint64pow10", laid_internal_strconv_uint64pow10)], narrowed := true }
def FormatTurnedUptoSaid : Prop := formatTurnedUptoRow.holds Tryz.pinned (OpenSpec.upto formatTurnedSpec)

/-- 'niblicklaw05.FormatLeads', WHERE WHAT IT READS IS OF BULK AT MOST 1048576: true; the input reads as it did. -/
def formatLeadsUptoRow : OpenClaim := { program := "ytanpmgfaieekhaagreatdoor", sum := "6d48fbcf44fe7133eb0908751a4bb70dab0846c331d58b8b11b6d231fed0338f", func := "niblick/niblicklaw05.FormatLeads", spec := "formatLeads", unfollowed := true, recurses := true, named := ["internal/strconv.uint64pow10", "math/bits.deBruijn32tab", "math/bits.deBruijn64tab"], apart := false, laid := [("math/bits.deBruijn32tab", laid_math_bits_deBruijn32tab), ("math/bits.deBruijn64tab", laid_math_bits_deBruijn64tab), ("internal/strconv.uint64pow10", laid_internal_strconv_uint64pow10)], narrowed := true }
def FormatLeadsUptoSaid : Prop := formatLeadsUptoRow.holds Tryz.pinned (OpenSpec.upto formatLeadsSpec)

end Rows
end Go.Proofs.YtanpmgfaieekhaaGreatDoor
