/-
  NARROWER THAN 'FOR EVERY INPUT', by the rows' own cells (each row's printed sentence says how): TramSet: laid · TramViewed: laid · TramSees: laid · TramWords: laid · TramTrue: laid · TramStops: laid · TramWaited: laid · TramFars: laid · TramPaced: laid · TramHangs: laid · TramHung: laid · TramLeaves: laid · TramMore: laid · TramNeeds: laid · TramPrints: laid · TramReads: laid · TramSpoilt: laid · TramLeft: laid.
  DERIVED. THE GIVEN ROWS OF THIS SEAT. 18 by the template 'for every input the law returns true; each argument reads behind the call as it read before'; 0 by the template 'total and deterministic' (their statements: YtdiflocclemeaaaGreatDoorTotals.lean).
  GIVEN WITH THE SEED: the statements are not yours to turn. If you find one false, say at which input.
  Laid BY PROGRAM, IN A SANDBOX (cutbox-rows.mjs): the forced cells as the released guide's own fill.sh prints them over the translation 9476d6db1c99ca7d… (all of the seat's roots in one cut). By AI agents, Wed Nov 11 2026. No macro, syntax, notation, axiom, sorry.
-/
import Derived.Test.YtdiflocclemeaaaGreatDoorChecked
import GoSem.PinnedTables
import GoSem.Claim
import GoSem.ClaimJoined
import GoSem.ClaimMapViews
import Derived.JoinedTies
import Derived.KernelRfl
namespace Go.Proofs.YtdiflocclemeaaaGreatDoor
/- THE CELL 'sum', in the pinned program and in every row, IS THE sha256 OF THE DUMP (.gsa) THAT YtdiflocclemeaaaGreatDoorProg.lean LOADS. Nothing in Lean hashes anything: it is a label: what it is worth is what the hold of that sum in a sandbox is worth. -/
noncomputable def Tryz.pinned : Pinned := { name := "ytdiflocclemeaaagreatdoor", sum := "9476d6db1c99ca7d1393abb1ad71d7b9b6a2dbaf9fc49308f350667bdea7b61b", checked := Tryz.checked }
namespace Rows
def none {H : Type} : Left H := { results := [], args := [] }

/- WHAT THE LISTED PACKAGE-LEVEL VARIABLES READ AS WHEN THE CALL BEGINS. Each datum BY PROGRAM (the guide's laid-datum.mjs) off the statement by which the dump's own 'gosem.cut.vars' lays the variable. In a bare row this is a premise. The card (YtdiflocclemeaaaGreatDoorCards.lean) ties it to the program's text. -/
def laid_math_bits_deBruijn32tab {H : Type} : DataW H := .agg [.lit (.int .u8 0), .lit (.int .u8 1), .lit (.int .u8 28), .lit (.int .u8 2), .lit (.int .u8 29), .lit (.int .u8 14), .lit (.int .u8 24), .lit (.int .u8 3), .lit (.int .u8 30), .lit (.int .u8 22), .lit (.int .u8 20), .lit (.int .u8 15), .lit (.int .u8 25), .lit (.int .u8 17), .lit (.int .u8 4), .lit (.int .u8 8), .lit (.int .u8 31), .lit (.int .u8 27), .lit (.int .u8 13), .lit (.int .u8 23), .lit (.int .u8 21), .lit (.int .u8 19), .lit (.int .u8 16), .lit (.int .u8 7), .lit (.int .u8 26), .lit (.int .u8 12), .lit (.int .u8 18), .lit (.int .u8 6), .lit (.int .u8 11), .lit (.int .u8 5), .lit (.int .u8 10), .lit (.int .u8 9)]
def laid_math_bits_deBruijn64tab {H : Type} : DataW H := .agg [.lit (.int .u8 0), .lit (.int .u8 1), .lit (.int .u8 56), .lit (.int .u8 2), .lit (.int .u8 57), .lit (.int .u8 49), .lit (.int .u8 28), .lit (.int .u8 3), .lit (.int .u8 61), .lit (.int .u8 58), .lit (.int .u8 42), .lit (.int .u8 50), .lit (.int .u8 38), .lit (.int .u8 29), .lit (.int .u8 17), .lit (.int .u8 4), .lit (.int .u8 62), .lit (.int .u8 47), .lit (.int .u8 59), .lit (.int .u8 36), .lit (.int .u8 45), .lit (.int .u8 43), .lit (.int .u8 51), .lit (.int .u8 22), .lit (.int .u8 53), .lit (.int .u8 39), .lit (.int .u8 33), .lit (.int .u8 30), .lit (.int .u8 24), .lit (.int .u8 18), .lit (.int .u8 12), .lit (.int .u8 5), .lit (.int .u8 63), .lit (.int .u8 55), .lit (.int .u8 48), .lit (.int .u8 27), .lit (.int .u8 60), .lit (.int .u8 41), .lit (.int .u8 37), .lit (.int .u8 16), .lit (.int .u8 46), .lit (.int .u8 35), .lit (.int .u8 44), .lit (.int .u8 21), .lit (.int .u8 52), .lit (.int .u8 32), .lit (.int .u8 23), .lit (.int .u8 11), .lit (.int .u8 54), .lit (.int .u8 26), .lit (.int .u8 40), .lit (.int .u8 15), .lit (.int .u8 34), .lit (.int .u8 20), .lit (.int .u8 31), .lit (.int .u8 10), .lit (.int .u8 25), .lit (.int .u8 14), .lit (.int .u8 19), .lit (.int .u8 9), .lit (.int .u8 13), .lit (.int .u8 8), .lit (.int .u8 7), .lit (.int .u8 6)]
def laid_internal_strconv_uint64pow10 {H : Type} : DataW H := .agg [.lit (.int .u64 1), .lit (.int .u64 10), .lit (.int .u64 100), .lit (.int .u64 1000), .lit (.int .u64 10000), .lit (.int .u64 100000), .lit (.int .u64 1000000), .lit (.int .u64 10000000), .lit (.int .u64 100000000), .lit (.int .u64 1000000000), .lit (.int .u64 10000000000), .lit (.int .u64 100000000000), .lit (.int .u64 1000000000000), .lit (.int .u64 10000000000000), .lit (.int .u64 100000000000000), .lit (.int .u64 1000000000000000), .lit (.int .u64 10000000000000000), .lit (.int .u64 100000000000000000), .lit (.int .u64 1000000000000000000), .lit (.int .u64 10000000000000000000)]
def laid_unicode_utf8_acceptRanges {H : Type} : DataW H := .agg [.agg [.lit (.int .u8 128), .lit (.int .u8 191)], .agg [.lit (.int .u8 160), .lit (.int .u8 191)], .agg [.lit (.int .u8 128), .lit (.int .u8 159)], .agg [.lit (.int .u8 144), .lit (.int .u8 191)], .agg [.lit (.int .u8 128), .lit (.int .u8 143)], .agg [.lit (.int .u8 0), .lit (.int .u8 0)], .agg [.lit (.int .u8 0), .lit (.int .u8 0)], .agg [.lit (.int .u8 0), .lit (.int .u8 0)], .agg [.lit (.int .u8 0), .lit (.int .u8 0)], .agg [.lit (.int .u8 0), .lit (.int .u8 0)], .agg [.lit (.int .u8 0), .lit (.int .u8 0)], .agg [.lit (.int .u8 0), .lit (.int .u8 0)], .agg [.lit (.int .u8 0), .lit (.int .u8 0)], .agg [.lit (.int .u8 0), .lit (.int .u8 0)], .agg [.lit (.int .u8 0), .lit (.int .u8 0)], .agg [.lit (.int .u8 0), .lit (.int .u8 0)]]
/-- One of Go's own tables, pinned by name: the form's constant. -/
def laid_unicode_utf8_first : DataW Unit := Go.Pinned.utf8First

/-- 'mahlsticklaw09.TramSet': WHATEVER THE INPUT: true; the input reads as it did. -/
def tramSetSpec : ChangeSpec := { name := "tramSet", fn := fun _ => fun
  | [d] => { results := [.lit (.bool true)], args := [d] }
  | _ => none }
def tramSetRow : OpenClaim := { program := "ytdiflocclemeaaagreatdoor", sum := "9476d6db1c99ca7d1393abb1ad71d7b9b6a2dbaf9fc49308f350667bdea7b61b", func := "mahlstick/mahlsticklaw09.TramSet", spec := "tramSet", inPlace := ["internal/bytealg.CountString", "internal/bytealg.IndexByteString", "internal/bytealg.IndexString", "internal/abi.NoEscape", "internal/bytealg.MakeNoZero"], unfollowed := true, recurses := true, named := ["unicode/utf8.first", "unicode/utf8.acceptRanges", "internal/bytealg.MaxLen", "internal/strconv.uint64pow10", "math/bits.deBruijn32tab", "math/bits.deBruijn64tab"], plainKeys := false, apart := false, laid := [("math/bits.deBruijn32tab", laid_math_bits_deBruijn32tab), ("math/bits.deBruijn64tab", laid_math_bits_deBruijn64tab), ("internal/strconv.uint64pow10", laid_internal_strconv_uint64pow10), ("unicode/utf8.acceptRanges", laid_unicode_utf8_acceptRanges), ("unicode/utf8.first", laid_unicode_utf8_first)] }
def TramSetSaid : Prop := tramSetRow.holds Tryz.pinned (OpenSpec.ofChange tramSetSpec)

/-- ITS FALSE NEIGHBOUR: 'it returns false'. Refute it at one input. -/
def tramSetWrong : ChangeSpec := { name := "tramSet", fn := fun _ => fun
  | [d] => { results := [.lit (.bool false)], args := [d] }
  | _ => none }
def TramSetWrongFalsely : Prop := tramSetRow.holds Tryz.pinned (OpenSpec.ofChange tramSetWrong)

/-- 'mahlsticklaw09.TramViewed': WHATEVER THE INPUT: true; the input reads as it did. -/
def tramViewedSpec : ChangeSpec := { name := "tramViewed", fn := fun _ => fun
  | [d1, d2] => { results := [.lit (.bool true)], args := [d1, d2] }
  | _ => none }
def tramViewedRow : OpenClaim := { program := "ytdiflocclemeaaagreatdoor", sum := "9476d6db1c99ca7d1393abb1ad71d7b9b6a2dbaf9fc49308f350667bdea7b61b", func := "mahlstick/mahlsticklaw09.TramViewed", spec := "tramViewed", inPlace := ["internal/bytealg.CountString", "internal/bytealg.IndexByteString", "internal/bytealg.IndexString", "internal/abi.NoEscape", "internal/bytealg.MakeNoZero"], unfollowed := true, recurses := true, named := ["unicode/utf8.first", "unicode/utf8.acceptRanges", "internal/bytealg.MaxLen", "internal/strconv.uint64pow10", "math/bits.deBruijn32tab", "math/bits.deBruijn64tab"], plainKeys := false, apart := false, laid := [("math/bits.deBruijn32tab", laid_math_bits_deBruijn32tab), ("math/bits.deBruijn64tab", laid_math_bits_deBruijn64tab), ("internal/strconv.uint64pow10", laid_internal_strconv_uint64pow10), ("unicode/utf8.acceptRanges", laid_unicode_utf8_acceptRanges), ("unicode/utf8.first", laid_unicode_utf8_first)] }
def TramViewedSaid : Prop := tramViewedRow.holds Tryz.pinned (OpenSpec.ofChange tramViewedSpec)

/-- ITS FALSE NEIGHBOUR: 'it returns false'. Refute it at one input. -/
def tramViewedWrong : ChangeSpec := { name := "tramViewed", fn := fun _ => fun
  | [d1, d2] => { results := [.lit (.bool false)], args := [d1, d2] }
  | _ => none }
def TramViewedWrongFalsely : Prop := tramViewedRow.holds Tryz.pinned (OpenSpec.ofChange tramViewedWrong)

/-- 'mahlsticklaw09.TramSees': WHATEVER THE INPUT: true; the input reads as it did. -/
def tramSeesSpec : ChangeSpec := { name := "tramSees", fn := fun _ => fun
  | [d1, d2] => { results := [.lit (.bool true)], args := [d1, d2] }
  | _ => none }
def tramSeesRow : OpenClaim := { program := "ytdiflocclemeaaagreatdoor", sum := "9476d6db1c99ca7d1393abb1ad71d7b9b6a2dbaf9fc49308f350667bdea7b61b", func := "mahlstick/mahlsticklaw09.TramSees", spec := "tramSees", inPlace := ["internal/bytealg.CountString", "internal/bytealg.IndexByteString", "internal/bytealg.IndexString", "internal/abi.NoEscape", "internal/bytealg.MakeNoZero"], unfollowed := true, recurses := true, named := ["unicode/utf8.first", "unicode/utf8.acceptRanges", "internal/bytealg.MaxLen", "internal/strconv.uint64pow10", "math/bits.deBruijn32tab", "math/bits.deBruijn64tab"], plainKeys := false, apart := false, laid := [("math/bits.deBruijn32tab", laid_math_bits_deBruijn32tab), ("math/bits.deBruijn64tab", laid_math_bits_deBruijn64tab), ("internal/strconv.uint64pow10", laid_internal_strconv_uint64pow10), ("unicode/utf8.acceptRanges", laid_unicode_utf8_acceptRanges), ("unicode/utf8.first", laid_unicode_utf8_first)] }
def TramSeesSaid : Prop := tramSeesRow.holds Tryz.pinned (OpenSpec.ofChange tramSeesSpec)

/-- ITS FALSE NEIGHBOUR: 'it returns false'. Refute it at one input. -/
def tramSeesWrong : ChangeSpec := { name := "tramSees", fn := fun _ => fun
  | [d1, d2] => { results := [.lit (.bool false)], args := [d1, d2] }
  | _ => none }
def TramSeesWrongFalsely : Prop := tramSeesRow.holds Tryz.pinned (OpenSpec.ofChange tramSeesWrong)

/-- 'mahlsticklaw09.TramWords': WHATEVER THE INPUT: true; the input reads as it did. -/
def tramWordsSpec : ChangeSpec := { name := "tramWords", fn := fun _ => fun
  | [d1, d2] => { results := [.lit (.bool true)], args := [d1, d2] }
  | _ => none }
def tramWordsRow : OpenClaim := { program := "ytdiflocclemeaaagreatdoor", sum := "9476d6db1c99ca7d1393abb1ad71d7b9b6a2dbaf9fc49308f350667bdea7b61b", func := "mahlstick/mahlsticklaw09.TramWords", spec := "tramWords", inPlace := ["internal/bytealg.CountString", "internal/bytealg.IndexByteString", "internal/bytealg.IndexString", "internal/abi.NoEscape", "internal/bytealg.MakeNoZero"], unfollowed := true, recurses := true, named := ["unicode/utf8.first", "unicode/utf8.acceptRanges", "internal/bytealg.MaxLen", "internal/strconv.uint64pow10", "math/bits.deBruijn32tab", "math/bits.deBruijn64tab"], plainKeys := false, apart := false, laid := [("math/bits.deBruijn32tab", laid_math_bits_deBruijn32tab), ("math/bits.deBruijn64tab", laid_math_bits_deBruijn64tab), ("internal/strconv.uint64pow10", laid_internal_strconv_uint64pow10), ("unicode/utf8.acceptRanges", laid_unicode_utf8_acceptRanges), ("unicode/utf8.first", laid_unicode_utf8_first)] }
def TramWordsSaid : Prop := tramWordsRow.holds Tryz.pinned (OpenSpec.ofChange tramWordsSpec)

/-- ITS FALSE NEIGHBOUR: 'it returns false'. Refute it at one input. -/
def tramWordsWrong : ChangeSpec := { name := "tramWords", fn := fun _ => fun
  | [d1, d2] => { results := [.lit (.bool false)], args := [d1, d2] }
  | _ => none }
def TramWordsWrongFalsely : Prop := tramWordsRow.holds Tryz.pinned (OpenSpec.ofChange tramWordsWrong)

/-- 'mahlsticklaw09.TramTrue': WHATEVER THE INPUT: true; the input reads as it did. -/
def tramTrueSpec : ChangeSpec := { name := "tramTrue", fn := fun _ => fun
  | [d1, d2, d3, d4] => { results := [.lit (.bool true)], args := [d1, d2, d3, d4] }
  | _ => none }
def tramTrueRow : OpenClaim := { program := "ytdiflocclemeaaagreatdoor", sum := "9476d6db1c99ca7d1393abb1ad71d7b9b6a2dbaf9fc49308f350667bdea7b61b", func := "mahlstick/mahlsticklaw09.TramTrue", spec := "tramTrue", inPlace := ["internal/bytealg.CountString", "internal/bytealg.IndexByteString", "internal/bytealg.IndexString", "internal/abi.NoEscape", "internal/bytealg.MakeNoZero"], unfollowed := true, recurses := true, named := ["unicode/utf8.first", "unicode/utf8.acceptRanges", "internal/bytealg.MaxLen", "internal/strconv.uint64pow10", "math/bits.deBruijn32tab", "math/bits.deBruijn64tab"], plainKeys := false, apart := false, laid := [("math/bits.deBruijn32tab", laid_math_bits_deBruijn32tab), ("math/bits.deBruijn64tab", laid_math_bits_deBruijn64tab), ("internal/strconv.uint64pow10", laid_internal_strconv_uint64pow10), ("unicode/utf8.acceptRanges", laid_unicode_utf8_acceptRanges), ("unicode/utf8.first", laid_unicode_utf8_first)] }
def TramTrueSaid : Prop := tramTrueRow.holds Tryz.pinned (OpenSpec.ofChange tramTrueSpec)

/-- ITS FALSE NEIGHBOUR: 'it returns false'. Refute it at one input. -/
def tramTrueWrong : ChangeSpec := { name := "tramTrue", fn := fun _ => fun
  | [d1, d2, d3, d4] => { results := [.lit (.bool false)], args := [d1, d2, d3, d4] }
  | _ => none }
def TramTrueWrongFalsely : Prop := tramTrueRow.holds Tryz.pinned (OpenSpec.ofChange tramTrueWrong)

/-- 'mahlsticklaw09.TramStops': WHATEVER THE INPUT: true; the input reads as it did. -/
def tramStopsSpec : ChangeSpec := { name := "tramStops", fn := fun _ => fun
  | [d] => { results := [.lit (.bool true)], args := [d] }
  | _ => none }
def tramStopsRow : OpenClaim := { program := "ytdiflocclemeaaagreatdoor", sum := "9476d6db1c99ca7d1393abb1ad71d7b9b6a2dbaf9fc49308f350667bdea7b61b", func := "mahlstick/mahlsticklaw09.TramStops", spec := "tramStops", inPlace := ["internal/bytealg.CountString", "internal/bytealg.IndexByteString", "internal/bytealg.IndexString", "internal/abi.NoEscape", "internal/bytealg.MakeNoZero"], unfollowed := true, recurses := true, named := ["unicode/utf8.first", "unicode/utf8.acceptRanges", "internal/bytealg.MaxLen", "internal/strconv.uint64pow10", "math/bits.deBruijn32tab", "math/bits.deBruijn64tab"], plainKeys := false, apart := false, laid := [("math/bits.deBruijn32tab", laid_math_bits_deBruijn32tab), ("math/bits.deBruijn64tab", laid_math_bits_deBruijn64tab), ("internal/strconv.uint64pow10", laid_internal_strconv_uint64pow10), ("unicode/utf8.acceptRanges", laid_unicode_utf8_acceptRanges), ("unicode/utf8.first", laid_unicode_utf8_first)] }
def TramStopsSaid : Prop := tramStopsRow.holds Tryz.pinned (OpenSpec.ofChange tramStopsSpec)

/-- ITS FALSE NEIGHBOUR: 'it returns false'. Refute it at one input. -/
def tramStopsWrong : ChangeSpec := { name := "tramStops", fn := fun _ => fun
  | [d] => { results := [.lit (.bool false)], args := [d] }
  | _ => none }
def TramStopsWrongFalsely : Prop := tramStopsRow.holds Tryz.pinned (OpenSpec.ofChange tramStopsWrong)

/-- 'mahlsticklaw09.TramWaited': WHATEVER THE INPUT: true; the input reads as it did. -/
def tramWaitedSpec : ChangeSpec := { name := "tramWaited", fn := fun _ => fun
  | [d1, d2, d3] => { results := [.lit (.bool true)], args := [d1, d2, d3] }
  | _ => none }
def tramWaitedRow : OpenClaim := { program := "ytdiflocclemeaaagreatdoor", sum := "9476d6db1c99ca7d1393abb1ad71d7b9b6a2dbaf9fc49308f350667bdea7b61b", func := "mahlstick/mahlsticklaw09.TramWaited", spec := "tramWaited", inPlace := ["internal/bytealg.CountString", "internal/bytealg.IndexByteString", "internal/bytealg.IndexString", "internal/abi.NoEscape", "internal/bytealg.MakeNoZero"], unfollowed := true, recurses := true, named := ["unicode/utf8.first", "unicode/utf8.acceptRanges", "internal/bytealg.MaxLen", "internal/strconv.uint64pow10", "math/bits.deBruijn32tab", "math/bits.deBruijn64tab"], plainKeys := false, apart := false, laid := [("math/bits.deBruijn32tab", laid_math_bits_deBruijn32tab), ("math/bits.deBruijn64tab", laid_math_bits_deBruijn64tab), ("internal/strconv.uint64pow10", laid_internal_strconv_uint64pow10), ("unicode/utf8.acceptRanges", laid_unicode_utf8_acceptRanges), ("unicode/utf8.first", laid_unicode_utf8_first)] }
def TramWaitedSaid : Prop := tramWaitedRow.holds Tryz.pinned (OpenSpec.ofChange tramWaitedSpec)

/-- ITS FALSE NEIGHBOUR: 'it returns false'. Refute it at one input. -/
def tramWaitedWrong : ChangeSpec := { name := "tramWaited", fn := fun _ => fun
  | [d1, d2, d3] => { results := [.lit (.bool false)], args := [d1, d2, d3] }
  | _ => none }
def TramWaitedWrongFalsely : Prop := tramWaitedRow.holds Tryz.pinned (OpenSpec.ofChange tramWaitedWrong)

/-- 'mahlsticklaw09.TramFars': WHATEVER THE INPUT: true; the input reads as it did. -/
def tramFarsSpec : ChangeSpec := { name := "tramFars", fn := fun _ => fun
  | [d] => { results := [.lit (.bool true)], args := [d] }
  | _ => none }
def tramFarsRow : OpenClaim := { program := "ytdiflocclemeaaagreatdoor", sum := "9476d6db1c99ca7d1393abb1ad71d7b9b6a2dbaf9fc49308f350667bdea7b61b", func := "mahlstick/mahlsticklaw09.TramFars", spec := "tramFars", inPlace := ["internal/bytealg.CountString", "internal/bytealg.IndexByteString", "internal/bytealg.IndexString", "internal/abi.NoEscape", "internal/bytealg.MakeNoZero"], unfollowed := true, recurses := true, named := ["unicode/utf8.first", "unicode/utf8.acceptRanges", "internal/bytealg.MaxLen", "internal/strconv.uint64pow10", "math/bits.deBruijn32tab", "math/bits.deBruijn64tab"], plainKeys := false, apart := false, laid := [("math/bits.deBruijn32tab", laid_math_bits_deBruijn32tab), ("math/bits.deBruijn64tab", laid_math_bits_deBruijn64tab), ("internal/strconv.uint64pow10", laid_internal_strconv_uint64pow10), ("unicode/utf8.acceptRanges", laid_unicode_utf8_acceptRanges), ("unicode/utf8.first", laid_unicode_utf8_first)] }
def TramFarsSaid : Prop := tramFarsRow.holds Tryz.pinned (OpenSpec.ofChange tramFarsSpec)

/-- ITS FALSE NEIGHBOUR: 'it returns false'. Refute it at one input. -/
def tramFarsWrong : ChangeSpec := { name := "tramFars", fn := fun _ => fun
  | [d] => { results := [.lit (.bool false)], args := [d] }
  | _ => none }
def TramFarsWrongFalsely : Prop := tramFarsRow.holds Tryz.pinned (OpenSpec.ofChange tramFarsWrong)

/-- 'mahlsticklaw09.TramPaced': WHATEVER THE INPUT: true; the input reads as it did. -/
def tramPacedSpec : ChangeSpec := { name := "tramPaced", fn := fun _ => fun
  | [d1, d2, d3] => { results := [.lit (.bool true)], args := [d1, d2, d3] }
  | _ => none }
def tramPacedRow : OpenClaim := { program := "ytdiflocclemeaaagreatdoor", sum := "9476d6db1c99ca7d1393abb1ad71d7b9b6a2dbaf9fc49308f350667bdea7b61b", func := "mahlstick/mahlsticklaw09.TramPaced", spec := "tramPaced", inPlace := ["internal/bytealg.CountString", "internal/bytealg.IndexByteString", "internal/bytealg.IndexString", "internal/abi.NoEscape", "internal/bytealg.MakeNoZero"], unfollowed := true, recurses := true, named := ["unicode/utf8.first", "unicode/utf8.acceptRanges", "internal/bytealg.MaxLen", "internal/strconv.uint64pow10", "math/bits.deBruijn32tab", "math/bits.deBruijn64tab"], plainKeys := false, apart := false, laid := [("math/bits.deBruijn32tab", laid_math_bits_deBruijn32tab), ("math/bits.deBruijn64tab", laid_math_bits_deBruijn64tab), ("internal/strconv.uint64pow10", laid_internal_strconv_uint64pow10), ("unicode/utf8.acceptRanges", laid_unicode_utf8_acceptRanges), ("unicode/utf8.first", laid_unicode_utf8_first)] }
def TramPacedSaid : Prop := tramPacedRow.holds Tryz.pinned (OpenSpec.ofChange tramPacedSpec)

/-- ITS FALSE NEIGHBOUR: 'it returns false'. Refute it at one input. -/
def tramPacedWrong : ChangeSpec := { name := "tramPaced", fn := fun _ => fun
  | [d1, d2, d3] => { results := [.lit (.bool false)], args := [d1, d2, d3] }
  | _ => none }
def TramPacedWrongFalsely : Prop := tramPacedRow.holds Tryz.pinned (OpenSpec.ofChange tramPacedWrong)

/-- 'mahlsticklaw09.TramHangs': WHATEVER THE INPUT: true; the input reads as it did. -/
def tramHangsSpec : ChangeSpec := { name := "tramHangs", fn := fun _ => fun
  | [d] => { results := [.lit (.bool true)], args := [d] }
  | _ => none }
def tramHangsRow : OpenClaim := { program := "ytdiflocclemeaaagreatdoor", sum := "9476d6db1c99ca7d1393abb1ad71d7b9b6a2dbaf9fc49308f350667bdea7b61b", func := "mahlstick/mahlsticklaw09.TramHangs", spec := "tramHangs", inPlace := ["internal/bytealg.CountString", "internal/bytealg.IndexByteString", "internal/bytealg.IndexString", "internal/abi.NoEscape", "internal/bytealg.MakeNoZero"], unfollowed := true, recurses := true, named := ["unicode/utf8.first", "unicode/utf8.acceptRanges", "internal/bytealg.MaxLen", "internal/strconv.uint64pow10", "math/bits.deBruijn32tab", "math/bits.deBruijn64tab"], plainKeys := false, apart := false, laid := [("math/bits.deBruijn32tab", laid_math_bits_deBruijn32tab), ("math/bits.deBruijn64tab", laid_math_bits_deBruijn64tab), ("internal/strconv.uint64pow10", laid_internal_strconv_uint64pow10), ("unicode/utf8.acceptRanges", laid_unicode_utf8_acceptRanges), ("unicode/utf8.first", laid_unicode_utf8_first)] }
def TramHangsSaid : Prop := tramHangsRow.holds Tryz.pinned (OpenSpec.ofChange tramHangsSpec)

/-- ITS FALSE NEIGHBOUR: 'it returns false'. Refute it at one input. -/
def tramHangsWrong : ChangeSpec := { name := "tramHangs", fn := fun _ => fun
  | [d] => { results := [.lit (.bool false)], args := [d] }
  | _ => none }
def TramHangsWrongFalsely : Prop := tramHangsRow.holds Tryz.pinned (OpenSpec.ofChange tramHangsWrong)

/-- 'mahlsticklaw09.TramHung': WHATEVER THE INPUT: true; the input reads as it did. -/
def tramHungSpec : ChangeSpec := { name := "tramHung", fn := fun _ => fun
  | [d1, d2] => { results := [.lit (.bool true)], args := [d1, d2] }
  | _ => none }
def tramHungRow : OpenClaim := { program := "ytdiflocclemeaaagreatdoor", sum := "9476d6db1c99ca7d1393abb1ad71d7b9b6a2dbaf9fc49308f350667bdea7b61b", func := "mahlstick/mahlsticklaw09.TramHung", spec := "tramHung", inPlace := ["internal/bytealg.CountString", "internal/bytealg.IndexByteString", "internal/bytealg.IndexString", "internal/abi.NoEscape", "internal/bytealg.MakeNoZero"], unfollowed := true, recurses := true, named := ["unicode/utf8.first", "unicode/utf8.acceptRanges", "internal/bytealg.MaxLen", "internal/strconv.uint64pow10", "math/bits.deBruijn32tab", "math/bits.deBruijn64tab"], plainKeys := false, apart := false, laid := [("math/bits.deBruijn32tab", laid_math_bits_deBruijn32tab), ("math/bits.deBruijn64tab", laid_math_bits_deBruijn64tab), ("internal/strconv.uint64pow10", laid_internal_strconv_uint64pow10), ("unicode/utf8.acceptRanges", laid_unicode_utf8_acceptRanges), ("unicode/utf8.first", laid_unicode_utf8_first)] }
def TramHungSaid : Prop := tramHungRow.holds Tryz.pinned (OpenSpec.ofChange tramHungSpec)

/-- ITS FALSE NEIGHBOUR: 'it returns false'. Refute it at one input. -/
def tramHungWrong : ChangeSpec := { name := "tramHung", fn := fun _ => fun
  | [d1, d2] => { results := [.lit (.bool false)], args := [d1, d2] }
  | _ => none }
def TramHungWrongFalsely : Prop := tramHungRow.holds Tryz.pinned (OpenSpec.ofChange tramHungWrong)

/-- 'mahlsticklaw09.TramLeaves': WHATEVER THE INPUT: true; the input reads as it did. -/
def tramLeavesSpec : ChangeSpec := { name := "tramLeaves", fn := fun _ => fun
  | [d] => { results := [.lit (.bool true)], args := [d] }
  | _ => none }
def tramLeavesRow : OpenClaim := { program := "ytdiflocclemeaaagreatdoor", sum := "9476d6db1c99ca7d1393abb1ad71d7b9b6a2dbaf9fc49308f350667bdea7b61b", func := "mahlstick/mahlsticklaw09.TramLeaves", spec := "tramLeaves", inPlace := ["internal/bytealg.CountString", "internal/bytealg.IndexByteString", "internal/bytealg.IndexString", "internal/abi.NoEscape", "internal/bytealg.MakeNoZero"], unfollowed := true, recurses := true, named := ["unicode/utf8.first", "unicode/utf8.acceptRanges", "internal/bytealg.MaxLen", "internal/strconv.uint64pow10", "math/bits.deBruijn32tab", "math/bits.deBruijn64tab"], plainKeys := false, apart := false, laid := [("math/bits.deBruijn32tab", laid_math_bits_deBruijn32tab), ("math/bits.deBruijn64tab", laid_math_bits_deBruijn64tab), ("internal/strconv.uint64pow10", laid_internal_strconv_uint64pow10), ("unicode/utf8.acceptRanges", laid_unicode_utf8_acceptRanges), ("unicode/utf8.first", laid_unicode_utf8_first)] }
def TramLeavesSaid : Prop := tramLeavesRow.holds Tryz.pinned (OpenSpec.ofChange tramLeavesSpec)

/-- ITS FALSE NEIGHBOUR: 'it returns false'. Refute it at one input. -/
def tramLeavesWrong : ChangeSpec := { name := "tramLeaves", fn := fun _ => fun
  | [d] => { results := [.lit (.bool false)], args := [d] }
  | _ => none }
def TramLeavesWrongFalsely : Prop := tramLeavesRow.holds Tryz.pinned (OpenSpec.ofChange tramLeavesWrong)

/-- 'mahlsticklaw09.TramMore': WHATEVER THE INPUT: true; the input reads as it did. -/
def tramMoreSpec : ChangeSpec := { name := "tramMore", fn := fun _ => fun
  | [d1, d2, d3, d4, d5] => { results := [.lit (.bool true)], args := [d1, d2, d3, d4, d5] }
  | _ => none }
def tramMoreRow : OpenClaim := { program := "ytdiflocclemeaaagreatdoor", sum := "9476d6db1c99ca7d1393abb1ad71d7b9b6a2dbaf9fc49308f350667bdea7b61b", func := "mahlstick/mahlsticklaw09.TramMore", spec := "tramMore", inPlace := ["internal/bytealg.CountString", "internal/bytealg.IndexByteString", "internal/bytealg.IndexString", "internal/abi.NoEscape", "internal/bytealg.MakeNoZero"], unfollowed := true, recurses := true, named := ["unicode/utf8.first", "unicode/utf8.acceptRanges", "internal/bytealg.MaxLen", "internal/strconv.uint64pow10", "math/bits.deBruijn32tab", "math/bits.deBruijn64tab"], plainKeys := false, apart := false, laid := [("math/bits.deBruijn32tab", laid_math_bits_deBruijn32tab), ("math/bits.deBruijn64tab", laid_math_bits_deBruijn64tab), ("internal/strconv.uint64pow10", laid_internal_strconv_uint64pow10), ("unicode/utf8.acceptRanges", laid_unicode_utf8_acceptRanges), ("unicode/utf8.first", laid_unicode_utf8_first)] }
def TramMoreSaid : Prop := tramMoreRow.holds Tryz.pinned (OpenSpec.ofChange tramMoreSpec)

/-- ITS FALSE NEIGHBOUR: 'it returns false'. Refute it at one input. -/
def tramMoreWrong : ChangeSpec := { name := "tramMore", fn := fun _ => fun
  | [d1, d2, d3, d4, d5] => { results := [.lit (.bool false)], args := [d1, d2, d3, d4, d5] }
  | _ => none }
def TramMoreWrongFalsely : Prop := tramMoreRow.holds Tryz.pinned (OpenSpec.ofChange tramMoreWrong)

/-- 'mahlsticklaw09.TramNeeds': WHATEVER THE INPUT: true; the input reads as it did. -/
def tramNeedsSpec : ChangeSpec := { name := "tramNeeds", fn := fun _ => fun
  | [d] => { results := [.lit (.bool true)], args := [d] }
  | _ => none }
def tramNeedsRow : OpenClaim := { program := "ytdiflocclemeaaagreatdoor", sum := "9476d6db1c99ca7d1393abb1ad71d7b9b6a2dbaf9fc49308f350667bdea7b61b", func := "mahlstick/mahlsticklaw09.TramNeeds", spec := "tramNeeds", inPlace := ["internal/bytealg.CountString", "internal/bytealg.IndexByteString", "internal/bytealg.IndexString", "internal/abi.NoEscape", "internal/bytealg.MakeNoZero"], unfollowed := true, recurses := true, named := ["unicode/utf8.first", "unicode/utf8.acceptRanges", "internal/bytealg.MaxLen", "internal/strconv.uint64pow10", "math/bits.deBruijn32tab", "math/bits.deBruijn64tab"], plainKeys := false, apart := false, laid := [("math/bits.deBruijn32tab", laid_math_bits_deBruijn32tab), ("math/bits.deBruijn64tab", laid_math_bits_deBruijn64tab), ("internal/strconv.uint64pow10", laid_internal_strconv_uint64pow10), ("unicode/utf8.acceptRanges", laid_unicode_utf8_acceptRanges), ("unicode/utf8.first", laid_unicode_utf8_first)] }
def TramNeedsSaid : Prop := tramNeedsRow.holds Tryz.pinned (OpenSpec.ofChange tramNeedsSpec)

/-- ITS FALSE NEIGHBOUR: 'it returns false'. Refute it at one input. -/
def tramNeedsWrong : ChangeSpec := { name := "tramNeeds", fn := fun _ => fun
  | [d] => { results := [.lit (.bool false)], args := [d] }
  | _ => none }
def TramNeedsWrongFalsely : Prop := tramNeedsRow.holds Tryz.pinned (OpenSpec.ofChange tramNeedsWrong)

/-- 'mahlsticklaw09.TramPrints': WHATEVER THE INPUT: true; the input reads as it did. -/
def tramPrintsSpec : ChangeSpec := { name := "tramPrints", fn := fun _ => fun
  | [d] => { results := [.lit (.bool true)], args := [d] }
  | _ => none }
def tramPrintsRow : OpenClaim := { program := "ytdiflocclemeaaagreatdoor", sum := "9476d6db1c99ca7d1393abb1ad71d7b9b6a2dbaf9fc49308f350667bdea7b61b", func := "mahlstick/mahlsticklaw09.TramPrints", spec := "tramPrints", inPlace := ["internal/bytealg.CountString", "internal/bytealg.IndexByteString", "internal/bytealg.IndexString", "internal/abi.NoEscape", "internal/bytealg.MakeNoZero"], unfollowed := true, recurses := true, named := ["unicode/utf8.first", "unicode/utf8.acceptRanges", "internal/bytealg.MaxLen", "internal/strconv.uint64pow10", "math/bits.deBruijn32tab", "math/bits.deBruijn64tab"], plainKeys := false, apart := false, laid := [("math/bits.deBruijn32tab", laid_math_bits_deBruijn32tab), ("math/bits.deBruijn64tab", laid_math_bits_deBruijn64tab), ("internal/strconv.uint64pow10", laid_internal_strconv_uint64pow10), ("unicode/utf8.acceptRanges", laid_unicode_utf8_acceptRanges), ("unicode/utf8.first", laid_unicode_utf8_first)] }
def TramPrintsSaid : Prop := tramPrintsRow.holds Tryz.pinned (OpenSpec.ofChange tramPrintsSpec)

/-- ITS FALSE NEIGHBOUR: 'it returns false'. Refute it at one input. -/
def tramPrintsWrong : ChangeSpec := { name := "tramPrints", fn := fun _ => fun
  | [d] => { results := [.lit (.bool false)], args := [d] }
  | _ => none }
def TramPrintsWrongFalsely : Prop := tramPrintsRow.holds Tryz.pinned (OpenSpec.ofChange tramPrintsWrong)

/-- 'mahlsticklaw09.TramReads': WHATEVER THE INPUT: true; the input reads as it did. -/
def tramReadsSpec : ChangeSpec := { name := "tramReads", fn := fun _ => fun
  | [d] => { results := [.lit (.bool true)], args := [d] }
  | _ => none }
def tramReadsRow : OpenClaim := { program := "ytdiflocclemeaaagreatdoor", sum := "9476d6db1c99ca7d1393abb1ad71d7b9b6a2dbaf9fc49308f350667bdea7b61b", func := "mahlstick/mahlsticklaw09.TramReads", spec := "tramReads", inPlace := ["internal/bytealg.CountString", "internal/bytealg.IndexByteString", "internal/bytealg.IndexString", "internal/abi.NoEscape", "internal/bytealg.MakeNoZero"], unfollowed := true, recurses := true, named := ["unicode/utf8.first", "unicode/utf8.acceptRanges", "internal/bytealg.MaxLen", "internal/strconv.uint64pow10", "math/bits.deBruijn32tab", "math/bits.deBruijn64tab"], plainKeys := false, apart := false, laid := [("math/bits.deBruijn32tab", laid_math_bits_deBruijn32tab), ("math/bits.deBruijn64tab", laid_math_bits_deBruijn64tab), ("internal/strconv.uint64pow10", laid_internal_strconv_uint64pow10), ("unicode/utf8.acceptRanges", laid_unicode_utf8_acceptRanges), ("unicode/utf8.first", laid_unicode_utf8_first)] }
def TramReadsSaid : Prop := tramReadsRow.holds Tryz.pinned (OpenSpec.ofChange tramReadsSpec)

/-- ITS FALSE NEIGHBOUR: 'it returns false'. Refute it at one input. -/
def tramReadsWrong : ChangeSpec := { name := "tramReads", fn := fun _ => fun
  | [d] => { results := [.lit (.bool false)], args := [d] }
  | _ => none }
def TramReadsWrongFalsely : Prop := tramReadsRow.holds Tryz.pinned (OpenSpec.ofChange tramReadsWrong)

/-- 'mahlsticklaw09.TramSpoilt': WHATEVER THE INPUT: true; the input reads as it did. -/
def tramSpoiltSpec : ChangeSpec := { name := "tramSpoilt", fn := fun _ => fun
  | [d1, d2, d3] => { results := [.lit (.bool true)], args := [d1, d2, d3] }
  | _ => none }
def tramSpoiltRow : OpenClaim := { program := "ytdiflocclemeaaagreatdoor", sum := "9476d6db1c99ca7d1393abb1ad71d7b9b6a2dbaf9fc49308f350667bdea7b61b", func := "mahlstick/mahlsticklaw09.TramSpoilt", spec := "tramSpoilt", inPlace := ["internal/bytealg.CountString", "internal/bytealg.IndexByteString", "internal/bytealg.IndexString", "internal/abi.NoEscape", "internal/bytealg.MakeNoZero"], unfollowed := true, recurses := true, named := ["unicode/utf8.first", "unicode/utf8.acceptRanges", "internal/bytealg.MaxLen", "internal/strconv.uint64pow10", "math/bits.deBruijn32tab", "math/bits.deBruijn64tab"], plainKeys := false, apart := false, laid := [("math/bits.deBruijn32tab", laid_math_bits_deBruijn32tab), ("math/bits.deBruijn64tab", laid_math_bits_deBruijn64tab), ("internal/strconv.uint64pow10", laid_internal_strconv_uint64pow10), ("unicode/utf8.acceptRanges", laid_unicode_utf8_acceptRanges), ("unicode/utf8.first", laid_unicode_utf8_first)] }
def TramSpoiltSaid : Prop := tramSpoiltRow.holds Tryz.pinned (OpenSpec.ofChange tramSpoiltSpec)

/-- ITS FALSE NEIGHBOUR: 'it returns false'. Refute it at one input. -/
def tramSpoiltWrong : ChangeSpec := { name := "tramSpoilt", fn := fun _ => fun
  | [d1, d2, d3] => { results := [.lit (.bool false)], args := [d1, d2, d3] }
  | _ => none }
def TramSpoiltWrongFalsely : Prop := tramSpoiltRow.holds Tryz.pinned (OpenSpec.ofChange tramSpoiltWrong)

/-- 'mahlsticklaw09.TramLeft': WHATEVER THE INPUT: true; the input reads as it did. -/
def tramLeftSpec : ChangeSpec := { name := "tramLeft", fn := fun _ => fun
  | [d1, d2] => { results := [.lit (.bool true)], args := [d1, d2] }
  | _ => none }
def tramLeftRow : OpenClaim := { program := "ytdiflocclemeaaagreatdoor", sum := "9476d6db1c99ca7d1393abb1ad71d7b9b6a2dbaf9fc49308f350667bdea7b61b", func := "mahlstick/mahlsticklaw09.TramLeft", spec := "tramLeft", inPlace := ["internal/bytealg.CountString", "internal/bytealg.IndexByteString", "internal/bytealg.IndexString", "internal/abi.NoEscape", "internal/bytealg.MakeNoZero"], unfollowed := true, recurses := true, named := ["unicode/utf8.first", "unicode/utf8.acceptRanges", "internal/bytealg.MaxLen", "internal/strconv.uint64pow10", "math/bits.deBruijn32tab", "math/bits.deBruijn64tab"], plainKeys := false, apart := false, laid := [("math/bits.deBruijn32tab", laid_math_bits_deBruijn32tab), ("math/bits.deBruijn64tab", laid_math_bits_deBruijn64tab), ("internal/strconv.uint64pow10", laid_internal_strconv_uint64pow10), ("unicode/utf8.acceptRanges", laid_unicode_utf8_acceptRanges), ("unicode/utf8.first", laid_unicode_utf8_first)] }
def TramLeftSaid : Prop := tramLeftRow.holds Tryz.pinned (OpenSpec.ofChange tramLeftSpec)

/-- ITS FALSE NEIGHBOUR: 'it returns false'. Refute it at one input. -/
def tramLeftWrong : ChangeSpec := { name := "tramLeft", fn := fun _ => fun
  | [d1, d2] => { results := [.lit (.bool false)], args := [d1, d2] }
  | _ => none }
def TramLeftWrongFalsely : Prop := tramLeftRow.holds Tryz.pinned (OpenSpec.ofChange tramLeftWrong)

/- THE SECOND FORM. 'bulk': how many values and letters a reading holds, each counted each time it is reached (what is shared counts as often as it is met; a slice's spare places count too). A statement '..UptoSaid' is the law's where the arguments, and the package variables that the reading takes, are together of bulk at most 1048576: NARROWER than '..Said'. Prove '..Said' where nothing that the law and all that it calls make is longer than what came in: it says more and counts as full. Else prove '..UptoSaid'. A law counts once. -/
mutual
def uptoBulk {H : Type} : DataW H → Nat
  | .lit (.string bytes) => bytes.length + 1
  | .lit _ => 1
  | .nil => 1
  | .ptr d => uptoBulk d + 1
  | .slice elems spare => uptoBulkAll elems + uptoBulkAll spare + 1
  | .agg parts => uptoBulkAll parts + 1
  | .iface _ d => uptoBulk d + 1
  | .map entries => uptoBulkEntries entries + 1
  | .held _ => 1
def uptoBulkAll {H : Type} : List (DataW H) → Nat
  | [] => 0
  | d :: r => uptoBulk d + uptoBulkAll r
def uptoBulkEntries {H : Type} : List (Lit × DataW H) → Nat
  | [] => 0
  | x :: r => uptoBulkEntry x + uptoBulkEntries r
def uptoBulkEntry {H : Type} : Lit × DataW H → Nat
  | (.string bytes, d) => bytes.length + uptoBulk d + 1
  | (_, d) => uptoBulk d + 1
 end
def uptoSmall : (H : Type) → List (DataW H) → Bool := fun _ ds => decide (uptoBulkAll ds ≤ 1048576)
def OpenSpec.upto (s : _root_.Go.ChangeSpec) : _root_.Go.OpenSpec := { _root_.Go.OpenSpec.ofChange s with cond := some uptoSmall }

/-- 'mahlsticklaw09.TramSet', WHERE WHAT IT READS IS OF BULK AT MOST 1048576: true; the input reads as it did. -/
def tramSetUptoRow : OpenClaim := { program := "ytdiflocclemeaaagreatdoor", sum := "9476d6db1c99ca7d1393abb1ad71d7b9b6a2dbaf9fc49308f350667bdea7b61b", func := "mahlstick/mahlsticklaw09.TramSet", spec := "tramSet", inPlace := ["internal/bytealg.CountString", "internal/bytealg.IndexByteString", "internal/bytealg.IndexString", "internal/abi.NoEscape", "internal/bytealg.MakeNoZero"], unfollowed := true, recurses := true, named := ["unicode/utf8.first", "unicode/utf8.acceptRanges", "internal/bytealg.MaxLen", "internal/strconv.uint64pow10", "math/bits.deBruijn32tab", "math/bits.deBruijn64tab"], plainKeys := false, apart := false, laid := [("math/bits.deBruijn32tab", laid_math_bits_deBruijn32tab), ("math/bits.deBruijn64tab", laid_math_bits_deBruijn64tab), ("internal/strconv.uint64pow10", laid_internal_strconv_uint64pow10), ("unicode/utf8.acceptRanges", laid_unicode_utf8_acceptRanges), ("unicode/utf8.first", laid_unicode_utf8_first)], narrowed := true }
def TramSetUptoSaid : Prop := tramSetUptoRow.holds Tryz.pinned (OpenSpec.upto tramSetSpec)

/-- 'mahlsticklaw09.TramViewed', WHERE WHAT IT READS IS OF BULK AT MOST 1048576: true; the input reads as it did. -/
def tramViewedUptoRow : OpenClaim := { program := "ytdiflocclemeaaagreatdoor", sum := "9476d6db1c99ca7d1393abb1ad71d7b9b6a2dbaf9fc49308f350667bdea7b61b", func := "mahlstick/mahlsticklaw09.TramViewed", spec := "tramViewed", inPlace := ["internal/bytealg.CountString", "internal/bytealg.IndexByteString", "internal/bytealg.IndexString", "internal/abi.NoEscape", "internal/bytealg.MakeNoZero"], unfollowed := true, recurses := true, named := ["unicode/utf8.first", "unicode/utf8.acceptRanges", "internal/bytealg.MaxLen", "internal/strconv.uint64pow10", "math/bits.deBruijn32tab", "math/bits.deBruijn64tab"], plainKeys := false, apart := false, laid := [("math/bits.deBruijn32tab", laid_math_bits_deBruijn32tab), ("math/bits.deBruijn64tab", laid_math_bits_deBruijn64tab), ("internal/strconv.uint64pow10", laid_internal_strconv_uint64pow10), ("unicode/utf8.acceptRanges", laid_unicode_utf8_acceptRanges), ("unicode/utf8.first", laid_unicode_utf8_first)], narrowed := true }
def TramViewedUptoSaid : Prop := tramViewedUptoRow.holds Tryz.pinned (OpenSpec.upto tramViewedSpec)

/-- 'mahlsticklaw09.TramSees', WHERE WHAT IT READS IS OF BULK AT MOST 1048576: true; the input reads as it did. -/
def tramSeesUptoRow : OpenClaim := { program := "ytdiflocclemeaaagreatdoor", sum := "9476d6db1c99ca7d1393abb1ad71d7b9b6a2dbaf9fc49308f350667bdea7b61b", func := "mahlstick/mahlsticklaw09.TramSees", spec := "tramSees", inPlace := ["internal/bytealg.CountString", "internal/bytealg.IndexByteString", "internal/bytealg.IndexString", "internal/abi.NoEscape", "internal/bytealg.MakeNoZero"], unfollowed := true, recurses := true, named := ["unicode/utf8.first", "unicode/utf8.acceptRanges", "internal/bytealg.MaxLen", "internal/strconv.uint64pow10", "math/bits.deBruijn32tab", "math/bits.deBruijn64tab"], plainKeys := false, apart := false, laid := [("math/bits.deBruijn32tab", laid_math_bits_deBruijn32tab), ("math/bits.deBruijn64tab", laid_math_bits_deBruijn64tab), ("internal/strconv.uint64pow10", laid_internal_strconv_uint64pow10), ("unicode/utf8.acceptRanges", laid_unicode_utf8_acceptRanges), ("unicode/utf8.first", laid_unicode_utf8_first)], narrowed := true }
def TramSeesUptoSaid : Prop := tramSeesUptoRow.holds Tryz.pinned (OpenSpec.upto tramSeesSpec)

/-- 'mahlsticklaw09.TramWords', WHERE WHAT IT READS IS OF BULK AT MOST 1048576: true; the input reads as it did. -/
def tramWordsUptoRow : OpenClaim := { program := "ytdiflocclemeaaagreatdoor", sum := "9476d6db1c99ca7d1393abb1ad71d7b9b6a2dbaf9fc49308f350667bdea7b61b", func := "mahlstick/mahlsticklaw09.TramWords", spec := "tramWords", inPlace := ["internal/bytealg.CountString", "internal/bytealg.IndexByteString", "internal/bytealg.IndexString", "internal/abi.NoEscape", "internal/bytealg.MakeNoZero"], unfollowed := true, recurses := true, named := ["unicode/utf8.first", "unicode/utf8.acceptRanges", "internal/bytealg.MaxLen", "internal/strconv.uint64pow10", "math/bits.deBruijn32tab", "math/bits.deBruijn64tab"], plainKeys := false, apart := false, laid := [("math/bits.deBruijn32tab", laid_math_bits_deBruijn32tab), ("math/bits.deBruijn64tab", laid_math_bits_deBruijn64tab), ("internal/strconv.uint64pow10", laid_internal_strconv_uint64pow10), ("unicode/utf8.acceptRanges", laid_unicode_utf8_acceptRanges), ("unicode/utf8.first", laid_unicode_utf8_first)], narrowed := true }
def TramWordsUptoSaid : Prop := tramWordsUptoRow.holds Tryz.pinned (OpenSpec.upto tramWordsSpec)

/-- 'mahlsticklaw09.TramTrue', WHERE WHAT IT READS IS OF BULK AT MOST 1048576: true; the input reads as it did. -/
def tramTrueUptoRow : OpenClaim := { program := "ytdiflocclemeaaagreatdoor", sum := "9476d6db1c99ca7d1393abb1ad71d7b9b6a2dbaf9fc49308f350667bdea7b61b", func := "mahlstick/mahlsticklaw09.TramTrue", spec := "tramTrue", inPlace := ["internal/bytealg.CountString", "internal/bytealg.IndexByteString", "internal/bytealg.IndexString", "internal/abi.NoEscape", "internal/bytealg.MakeNoZero"], unfollowed := true, recurses := true, named := ["unicode/utf8.first", "unicode/utf8.acceptRanges", "internal/bytealg.MaxLen", "internal/strconv.uint64pow10", "math/bits.deBruijn32tab", "math/bits.deBruijn64tab"], plainKeys := false, apart := false, laid := [("math/bits.deBruijn32tab", laid_math_bits_deBruijn32tab), ("math/bits.deBruijn64tab", laid_math_bits_deBruijn64tab), ("internal/strconv.uint64pow10", laid_internal_strconv_uint64pow10), ("unicode/utf8.acceptRanges", laid_unicode_utf8_acceptRanges), ("unicode/utf8.first", laid_unicode_utf8_first)], narrowed := true }
def TramTrueUptoSaid : Prop := tramTrueUptoRow.holds Tryz.pinned (OpenSpec.upto tramTrueSpec)

/-- 'mahlsticklaw09.TramStops', WHERE WHAT IT READS IS OF BULK AT MOST 1048576: true; the input reads as it did. -/
def tramStopsUptoRow : OpenClaim := { program := "ytdiflocclemeaaagreatdoor", sum := "9476d6db1c99ca7d1393abb1ad71d7b9b6a2dbaf9fc49308f350667bdea7b61b", func := "mahlstick/mahlsticklaw09.TramStops", spec := "tramStops", inPlace := ["internal/bytealg.CountString", "internal/bytealg.IndexByteString", "internal/bytealg.IndexString", "internal/abi.NoEscape", "internal/bytealg.MakeNoZero"], unfollowed := true, recurses := true, named := ["unicode/utf8.first", "unicode/utf8.acceptRanges", "internal/bytealg.MaxLen", "internal/strconv.uint64pow10", "math/bits.deBruijn32tab", "math/bits.deBruijn64tab"], plainKeys := false, apart := false, laid := [("math/bits.deBruijn32tab", laid_math_bits_deBruijn32tab), ("math/bits.deBruijn64tab", laid_math_bits_deBruijn64tab), ("internal/strconv.uint64pow10", laid_internal_strconv_uint64pow10), ("unicode/utf8.acceptRanges", laid_unicode_utf8_acceptRanges), ("unicode/utf8.first", laid_unicode_utf8_first)], narrowed := true }
def TramStopsUptoSaid : Prop := tramStopsUptoRow.holds Tryz.pinned (OpenSpec.upto tramStopsSpec)

/-- 'mahlsticklaw09.TramWaited', WHERE WHAT IT READS IS OF BULK AT MOST 1048576: true; the input reads as it did. -/
def tramWaitedUptoRow : OpenClaim := { program := "ytdiflocclemeaaagreatdoor", sum := "9476d6db1c99ca7d1393abb1ad71d7b9b6a2dbaf9fc49308f350667bdea7b61b", func := "mahlstick/mahlsticklaw09.TramWaited", spec := "tramWaited", inPlace := ["internal/bytealg.CountString", "internal/bytealg.IndexByteString", "internal/bytealg.IndexString", "internal/abi.NoEscape", "internal/bytealg.MakeNoZero"], unfollowed := true, recurses := true, named := ["unicode/utf8.first", "unicode/utf8.acceptRanges", "internal/bytealg.MaxLen", "internal/strconv.uint64pow10", "math/bits.deBruijn32tab", "math/bits.deBruijn64tab"], plainKeys := false, apart := false, laid := [("math/bits.deBruijn32tab", laid_math_bits_deBruijn32tab), ("math/bits.deBruijn64tab", laid_math_bits_deBruijn64tab), ("internal/strconv.uint64pow10", laid_internal_strconv_uint64pow10), ("unicode/utf8.acceptRanges", laid_unicode_utf8_acceptRanges), ("unicode/utf8.first", laid_unicode_utf8_first)], narrowed := true }
def TramWaitedUptoSaid : Prop := tramWaitedUptoRow.holds Tryz.pinned (OpenSpec.upto tramWaitedSpec)

/-- 'mahlsticklaw09.TramFars', WHERE WHAT IT READS IS OF BULK AT MOST 1048576: true; the input reads as it did. -/
def tramFarsUptoRow : OpenClaim := { program := "ytdiflocclemeaaagreatdoor", sum := "9476d6db1c99ca7d1393abb1ad71d7b9b6a2dbaf9fc49308f350667bdea7b61b", func := "mahlstick/mahlsticklaw09.TramFars", spec := "tramFars", inPlace := ["internal/bytealg.CountString", "internal/bytealg.IndexByteString", "internal/bytealg.IndexString", "internal/abi.NoEscape", "internal/bytealg.MakeNoZero"], unfollowed := true, recurses := true, named := ["unicode/utf8.first", "unicode/utf8.acceptRanges", "internal/bytealg.MaxLen", "internal/strconv.uint64pow10", "math/bits.deBruijn32tab", "math/bits.deBruijn64tab"], plainKeys := false, apart := false, laid := [("math/bits.deBruijn32tab", laid_math_bits_deBruijn32tab), ("math/bits.deBruijn64tab", laid_math_bits_deBruijn64tab), ("internal/strconv.uint64pow10", laid_internal_strconv_uint64pow10), ("unicode/utf8.acceptRanges", laid_unicode_utf8_acceptRanges), ("unicode/utf8.first", laid_unicode_utf8_first)], narrowed := true }
def TramFarsUptoSaid : Prop := tramFarsUptoRow.holds Tryz.pinned (OpenSpec.upto tramFarsSpec)

/-- 'mahlsticklaw09.TramPaced', WHERE WHAT IT READS IS OF BULK AT MOST 1048576: true; the input reads as it did. -/
def tramPacedUptoRow : OpenClaim := { program := "ytdiflocclemeaaagreatdoor", sum := "9476d6db1c99ca7d1393abb1ad71d7b9b6a2dbaf9fc49308f350667bdea7b61b", func := "mahlstick/mahlsticklaw09.TramPaced", spec := "tramPaced", inPlace := ["internal/bytealg.CountString", "internal/bytealg.IndexByteString", "internal/bytealg.IndexString", "internal/abi.NoEscape", "internal/bytealg.MakeNoZero"], unfollowed := true, recurses := true, named := ["unicode/utf8.first", "unicode/utf8.acceptRanges", "internal/bytealg.MaxLen", "internal/strconv.uint64pow10", "math/bits.deBruijn32tab", "math/bits.deBruijn64tab"], plainKeys := false, apart := false, laid := [("math/bits.deBruijn32tab", laid_math_bits_deBruijn32tab), ("math/bits.deBruijn64tab", laid_math_bits_deBruijn64tab), ("internal/strconv.uint64pow10", laid_internal_strconv_uint64pow10), ("unicode/utf8.acceptRanges", laid_unicode_utf8_acceptRanges), ("unicode/utf8.first", laid_unicode_utf8_first)], narrowed := true }
def TramPacedUptoSaid : Prop := tramPacedUptoRow.holds Tryz.pinned (OpenSpec.upto tramPacedSpec)

/-- 'mahlsticklaw09.TramHangs', WHERE WHAT IT READS IS OF BULK AT MOST 1048576: true; the input reads as it did. -/
def tramHangsUptoRow : OpenClaim := { program := "ytdiflocclemeaaagreatdoor", sum := "9476d6db1c99ca7d1393abb1ad71d7b9b6a2dbaf9fc49308f350667bdea7b61b", func := "mahlstick/mahlsticklaw09.TramHangs", spec := "tramHangs", inPlace := ["internal/bytealg.CountString", "internal/bytealg.IndexByteString", "internal/bytealg.IndexString", "internal/abi.NoEscape", "internal/bytealg.MakeNoZero"], unfollowed := true, recurses := true, named := ["unicode/utf8.first", "unicode/utf8.acceptRanges", "internal/bytealg.MaxLen", "internal/strconv.uint64pow10", "math/bits.deBruijn32tab", "math/bits.deBruijn64tab"], plainKeys := false, apart := false, laid := [("math/bits.deBruijn32tab", laid_math_bits_deBruijn32tab), ("math/bits.deBruijn64tab", laid_math_bits_deBruijn64tab), ("internal/strconv.uint64pow10", laid_internal_strconv_uint64pow10), ("unicode/utf8.acceptRanges", laid_unicode_utf8_acceptRanges), ("unicode/utf8.first", laid_unicode_utf8_first)], narrowed := true }
def TramHangsUptoSaid : Prop := tramHangsUptoRow.holds Tryz.pinned (OpenSpec.upto tramHangsSpec)

/-- 'mahlsticklaw09.TramHung', WHERE WHAT IT READS IS OF BULK AT MOST 1048576: true; the input reads as it did. -/
def tramHungUptoRow : OpenClaim := { program := "ytdiflocclemeaaagreatdoor", sum := "9476d6db1c99ca7d1393abb1ad71d7b9b6a2dbaf9fc49308f350667bdea7b61b", func := "mahlstick/mahlsticklaw09.TramHung", spec := "tramHung", inPlace := ["internal/bytealg.CountString", "internal/bytealg.IndexByteString", "internal/bytealg.IndexString", "internal/abi.NoEscape", "internal/bytealg.MakeNoZero"], unfollowed := true, recurses := true, named := ["unicode/utf8.first", "unicode/utf8.acceptRanges", "internal/bytealg.MaxLen", "internal/strconv.uint64pow10", "math/bits.deBruijn32tab", "math/bits.deBruijn64tab"], plainKeys := false, apart := false, laid := [("math/bits.deBruijn32tab", laid_math_bits_deBruijn32tab), ("math/bits.deBruijn64tab", laid_math_bits_deBruijn64tab), ("internal/strconv.uint64pow10", laid_internal_strconv_uint64pow10), ("unicode/utf8.acceptRanges", laid_unicode_utf8_acceptRanges), ("unicode/utf8.first", laid_unicode_utf8_first)], narrowed := true }
def TramHungUptoSaid : Prop := tramHungUptoRow.holds Tryz.pinned (OpenSpec.upto tramHungSpec)

/-- 'mahlsticklaw09.TramLeaves', WHERE WHAT IT READS IS OF BULK AT MOST 1048576: true; the input reads as it did. -/
def tramLeavesUptoRow : OpenClaim := { program := "ytdiflocclemeaaagreatdoor", sum := "9476d6db1c99ca7d1393abb1ad71d7b9b6a2dbaf9fc49308f350667bdea7b61b", func := "mahlstick/mahlsticklaw09.TramLeaves", spec := "tramLeaves", inPlace := ["internal/bytealg.CountString", "internal/bytealg.IndexByteString", "internal/bytealg.IndexString", "internal/abi.NoEscape", "internal/bytealg.MakeNoZero"], unfollowed := true, recurses := true, named := ["unicode/utf8.first", "unicode/utf8.acceptRanges", "internal/bytealg.MaxLen", "internal/strconv.uint64pow10", "math/bits.deBruijn32tab", "math/bits.deBruijn64tab"], plainKeys := false, apart := false, laid := [("math/bits.deBruijn32tab", laid_math_bits_deBruijn32tab), ("math/bits.deBruijn64tab", laid_math_bits_deBruijn64tab), ("internal/strconv.uint64pow10", laid_internal_strconv_uint64pow10), ("unicode/utf8.acceptRanges", laid_unicode_utf8_acceptRanges), ("unicode/utf8.first", laid_unicode_utf8_first)], narrowed := true }
def TramLeavesUptoSaid : Prop := tramLeavesUptoRow.holds Tryz.pinned (OpenSpec.upto tramLeavesSpec)

/-- 'mahlsticklaw09.TramMore', WHERE WHAT IT READS IS OF BULK AT MOST 1048576: true; the input reads as it did. -/
def tramMoreUptoRow : OpenClaim := { program := "ytdiflocclemeaaagreatdoor", sum := "9476d6db1c99ca7d1393abb1ad71d7b9b6a2dbaf9fc49308f350667bdea7b61b", func := "mahlstick/mahlsticklaw09.TramMore", spec := "tramMore", inPlace := ["internal/bytealg.CountString", "internal/bytealg.IndexByteString", "internal/bytealg.IndexString", "internal/abi.NoEscape", "internal/bytealg.MakeNoZero"], unfollowed := true, recurses := true, named := ["unicode/utf8.first", "unicode/utf8.acceptRanges", "internal/bytealg.MaxLen", "internal/strconv.uint64pow10", "math/bits.deBruijn32tab", "math/bits.deBruijn64tab"], plainKeys := false, apart := false, laid := [("math/bits.deBruijn32tab", laid_math_bits_deBruijn32tab), ("math/bits.deBruijn64tab", laid_math_bits_deBruijn64tab), ("internal/strconv.uint64pow10", laid_internal_strconv_uint64pow10), ("unicode/utf8.acceptRanges", laid_unicode_utf8_acceptRanges), ("unicode/utf8.first", laid_unicode_utf8_first)], narrowed := true }
def TramMoreUptoSaid : Prop := tramMoreUptoRow.holds Tryz.pinned (OpenSpec.upto tramMoreSpec)

/-- 'mahlsticklaw09.TramNeeds', WHERE WHAT IT READS IS OF BULK AT MOST 1048576: true; the input reads as it did. -/
def tramNeedsUptoRow : OpenClaim := { program := "ytdiflocclemeaaagreatdoor", sum := "9476d6db1c99ca7d1393abb1ad71d7b9b6a2dbaf9fc49308f350667bdea7b61b", func := "mahlstick/mahlsticklaw09.TramNeeds", spec := "tramNeeds", inPlace := ["internal/bytealg.CountString", "internal/bytealg.IndexByteString", "internal/bytealg.IndexString", "internal/abi.NoEscape", "internal/bytealg.MakeNoZero"], unfollowed := true, recurses := true, named := ["unicode/utf8.first", "unicode/utf8.acceptRanges", "internal/bytealg.MaxLen", "internal/strconv.uint64pow10", "math/bits.deBruijn32tab", "math/bits.deBruijn64tab"], plainKeys := false, apart := false, laid := [("math/bits.deBruijn32tab", laid_math_bits_deBruijn32tab), ("math/bits.deBruijn64tab", laid_math_bits_deBruijn64tab), ("internal/strconv.uint64pow10", laid_internal_strconv_uint64pow10), ("unicode/utf8.acceptRanges", laid_unicode_utf8_acceptRanges), ("unicode/utf8.first", laid_unicode_utf8_first)], narrowed := true }
def TramNeedsUptoSaid : Prop := tramNeedsUptoRow.holds Tryz.pinned (OpenSpec.upto tramNeedsSpec)

/-- 'mahlsticklaw09.TramPrints', WHERE WHAT IT READS IS OF BULK AT MOST 1048576: true; the input reads as it did. -/
def tramPrintsUptoRow : OpenClaim := { program := "ytdiflocclemeaaagreatdoor", sum := "9476d6db1c99ca7d1393abb1ad71d7b9b6a2dbaf9fc49308f350667bdea7b61b", func := "mahlstick/mahlsticklaw09.TramPrints", spec := "tramPrints", inPlace := ["internal/bytealg.CountString", "internal/bytealg.IndexByteString", "internal/bytealg.IndexString", "internal/abi.NoEscape", "internal/bytealg.MakeNoZero"], unfollowed := true, recurses := true, named := ["unicode/utf8.first", "unicode/utf8.acceptRanges", "internal/bytealg.MaxLen", "internal/strconv.uint64pow10", "math/bits.deBruijn32tab", "math/bits.deBruijn64tab"], plainKeys := false, apart := false, laid := [("math/bits.deBruijn32tab", laid_math_bits_deBruijn32tab), ("math/bits.deBruijn64tab", laid_math_bits_deBruijn64tab), ("internal/strconv.uint64pow10", laid_internal_strconv_uint64pow10), ("unicode/utf8.acceptRanges", laid_unicode_utf8_acceptRanges), ("unicode/utf8.first", laid_unicode_utf8_first)], narrowed := true }
def TramPrintsUptoSaid : Prop := tramPrintsUptoRow.holds Tryz.pinned (OpenSpec.upto tramPrintsSpec)

/-- 'mahlsticklaw09.TramReads', WHERE WHAT IT READS IS OF BULK AT MOST 1048576: true; the input reads as it did. -/
def tramReadsUptoRow : OpenClaim := { program := "ytdiflocclemeaaagreatdoor", sum := "9476d6db1c99ca7d1393abb1ad71d7b9b6a2dbaf9fc49308f350667bdea7b61b", func := "mahlstick/mahlsticklaw09.TramReads", spec := "tramReads", inPlace := ["internal/bytealg.CountString", "internal/bytealg.IndexByteString", "internal/bytealg.IndexString", "internal/abi.NoEscape", "internal/bytealg.MakeNoZero"], unfollowed := true, recurses := true, named := ["unicode/utf8.first", "unicode/utf8.acceptRanges", "internal/bytealg.MaxLen", "internal/strconv.uint64pow10", "math/bits.deBruijn32tab", "math/bits.deBruijn64tab"], plainKeys := false, apart := false, laid := [("math/bits.deBruijn32tab", laid_math_bits_deBruijn32tab), ("math/bits.deBruijn64tab", laid_math_bits_deBruijn64tab), ("internal/strconv.uint64pow10", laid_internal_strconv_uint64pow10), ("unicode/utf8.acceptRanges", laid_unicode_utf8_acceptRanges), ("unicode/utf8.first", laid_unicode_utf8_first)], narrowed := true }
def TramReadsUptoSaid : Prop := tramReadsUptoRow.holds Tryz.pinned (OpenSpec.upto tramReadsSpec)

/-- 'mahlsticklaw09.TramSpoilt', WHERE WHAT IT READS IS OF BULK AT MOST 1048576: true; the input reads as it did. -/
def tramSpoiltUptoRow : OpenClaim := { program := "ytdiflocclemeaaagreatdoor", sum := "9476d6db1c99ca7d1393abb1ad71d7b9b6a2dbaf9fc49308f350667bdea7b61b", func := "mahlstick/mahlsticklaw09.TramSpoilt", spec := "tramSpoilt", inPlace := ["internal/bytealg.CountString", "internal/bytealg.IndexByteString", "internal/bytealg.IndexString", "internal/abi.NoEscape", "internal/bytealg.MakeNoZero"], unfollowed := true, recurses := true, named := ["unicode/utf8.first", "unicode/utf8.acceptRanges", "internal/bytealg.MaxLen", "internal/strconv.uint64pow10", "math/bits.deBruijn32tab", "math/bits.deBruijn64tab"], plainKeys := false, apart := false, laid := [("math/bits.deBruijn32tab", laid_math_bits_deBruijn32tab), ("math/bits.deBruijn64tab", laid_math_bits_deBruijn64tab), ("internal/strconv.uint64pow10", laid_internal_strconv_uint64pow10), ("unicode/utf8.acceptRanges", laid_unicode_utf8_acceptRanges), ("unicode/utf8.first", laid_unicode_utf8_first)], narrowed := true }
def TramSpoiltUptoSaid : Prop := tramSpoiltUptoRow.holds Tryz.pinned (OpenSpec.upto tramSpoiltSpec)

/-- 'mahlsticklaw09.TramLeft', WHERE WHAT IT READS IS OF BULK AT MOST 1048576: true; the input reads as it did. -/
def tramLeftUptoRow : OpenClaim := { program := "ytdiflocclemeaaagreatdoor", sum := "9476d6db1c99ca7d1393abb1ad71d7b9b6a2dbaf9fc49308f350667bdea7b61b", func := "mahlstick/mahlsticklaw09.TramLeft", spec := "tramLeft", inPlace := ["internal/bytealg.CountString", "internal/bytealg.IndexByteString", "internal/bytealg.IndexString", "internal/abi.NoEscape", "internal/bytealg.MakeNoZero"], unfollowed := true, recurses := true, named := ["unicode/utf8.first", "unicode/utf8.acceptRanges", "internal/bytealg.MaxLen", "internal/strconv.uint64pow10", "math/bits.deBruijn32tab", "math/bits.deBruijn64tab"], plainKeys := false, apart := false, laid := [("math/bits.deBruijn32tab", laid_math_bits_deBruijn32tab), ("math/bits.deBruijn64tab", laid_math_bits_deBruijn64tab), ("internal/strconv.uint64pow10", laid_internal_strconv_uint64pow10), ("unicode/utf8.acceptRanges", laid_unicode_utf8_acceptRanges), ("unicode/utf8.first", laid_unicode_utf8_first)], narrowed := true }
def TramLeftUptoSaid : Prop := tramLeftUptoRow.holds Tryz.pinned (OpenSpec.upto tramLeftSpec)

end Rows
end Go.Proofs.YtdiflocclemeaaaGreatDoor
