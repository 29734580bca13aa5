/-
  NARROWER THAN 'FOR EVERY INPUT', by the rows' own cells (each row's printed sentence says how): LetterPlaced: laid · LetterStretches: laid · LetterWide: laid · LetterSets: laid · LetterRival: laid · LetterCounts: laid · LetterListed: laid · LetterDrops: laid · LetterLess: laid · LetterOvers: laid · LetterCutOff: laid · LetterFronts: laid · LetterAlikes: laid · LetterFell: laid · LetterMore: laid · LetterWidths: laid · LetterPrints: laid · LetterReads: laid · LetterSpoilt: laid.
  DERIVED. THE GIVEN ROWS OF THIS SEAT. 19 by the template 'for every input the law returns true; each argument reads behind the call as it read before'; 0 by the template 'total and deterministic' (their statements: YtjdgdinalodjfaaGreatDoorTotals.lean).
  GIVEN WITH THE SEED: the statements are not yours to turn. If you find one false, say at which input.
  Laid BY PROGRAM, IN A SANDBOX (cutbox-rows.mjs): the forced cells as the released guide's own fill.sh prints them over the translation 6872c3d036c3ae7d… (all of the seat's roots in one cut). By AI agents, Wed Nov 11 2026. No macro, syntax, notation, axiom, sorry.
-/
import Derived.Test.YtjdgdinalodjfaaGreatDoorChecked
import GoSem.PinnedTables
import GoSem.Claim
import GoSem.ClaimJoined
import GoSem.ClaimMapViews
import Derived.JoinedTies
import Derived.KernelRfl
namespace Go.Proofs.YtjdgdinalodjfaaGreatDoor
/- THE CELL 'sum', in the pinned program and in every row, IS THE sha256 OF THE DUMP (.gsa) THAT YtjdgdinalodjfaaGreatDoorProg.lean LOADS. Nothing in Lean hashes anything: it is a label: what it is worth is what the hold of that sum in a sandbox is worth. -/
noncomputable def Tryz.pinned : Pinned := { name := "ytjdgdinalodjfaagreatdoor", sum := "6872c3d036c3ae7d919a3777c2e3a0291eefb73cf23c2336135cc2f6dc7b9838", checked := Tryz.checked }
namespace Rows
def none {H : Type} : Left H := { results := [], args := [] }

/- WHAT THE LISTED PACKAGE-LEVEL VARIABLES READ AS WHEN THE CALL BEGINS. Each datum BY PROGRAM (the guide's laid-datum.mjs) off the statement by which the dump's own 'gosem.cut.vars' lays the variable. In a bare row this is a premise. The card (YtjdgdinalodjfaaGreatDoorCards.lean) ties it to the program's text. -/
def laid_math_bits_deBruijn32tab {H : Type} : DataW H := .agg [.lit (.int .u8 0), .lit (.int .u8 1), .lit (.int .u8 28), .lit (.int .u8 2), .lit (.int .u8 29), .lit (.int .u8 14), .lit (.int .u8 24), .lit (.int .u8 3), .lit (.int .u8 30), .lit (.int .u8 22), .lit (.int .u8 20), .lit (.int .u8 15), .lit (.int .u8 25), .lit (.int .u8 17), .lit (.int .u8 4), .lit (.int .u8 8), .lit (.int .u8 31), .lit (.int .u8 27), .lit (.int .u8 13), .lit (.int .u8 23), .lit (.int .u8 21), .lit (.int .u8 19), .lit (.int .u8 16), .lit (.int .u8 7), .lit (.int .u8 26), .lit (.int .u8 12), .lit (.int .u8 18), .lit (.int .u8 6), .lit (.int .u8 11), .lit (.int .u8 5), .lit (.int .u8 10), .lit (.int .u8 9)]
def laid_math_bits_deBruijn64tab {H : Type} : DataW H := .agg [.lit (.int .u8 0), .lit (.int .u8 1), .lit (.int .u8 56), .lit (.int .u8 2), .lit (.int .u8 57), .lit (.int .u8 49), .lit (.int .u8 28), .lit (.int .u8 3), .lit (.int .u8 61), .lit (.int .u8 58), .lit (.int .u8 42), .lit (.int .u8 50), .lit (.int .u8 38), .lit (.int .u8 29), .lit (.int .u8 17), .lit (.int .u8 4), .lit (.int .u8 62), .lit (.int .u8 47), .lit (.int .u8 59), .lit (.int .u8 36), .lit (.int .u8 45), .lit (.int .u8 43), .lit (.int .u8 51), .lit (.int .u8 22), .lit (.int .u8 53), .lit (.int .u8 39), .lit (.int .u8 33), .lit (.int .u8 30), .lit (.int .u8 24), .lit (.int .u8 18), .lit (.int .u8 12), .lit (.int .u8 5), .lit (.int .u8 63), .lit (.int .u8 55), .lit (.int .u8 48), .lit (.int .u8 27), .lit (.int .u8 60), .lit (.int .u8 41), .lit (.int .u8 37), .lit (.int .u8 16), .lit (.int .u8 46), .lit (.int .u8 35), .lit (.int .u8 44), .lit (.int .u8 21), .lit (.int .u8 52), .lit (.int .u8 32), .lit (.int .u8 23), .lit (.int .u8 11), .lit (.int .u8 54), .lit (.int .u8 26), .lit (.int .u8 40), .lit (.int .u8 15), .lit (.int .u8 34), .lit (.int .u8 20), .lit (.int .u8 31), .lit (.int .u8 10), .lit (.int .u8 25), .lit (.int .u8 14), .lit (.int .u8 19), .lit (.int .u8 9), .lit (.int .u8 13), .lit (.int .u8 8), .lit (.int .u8 7), .lit (.int .u8 6)]
def laid_internal_strconv_uint64pow10 {H : Type} : DataW H := .agg [.lit (.int .u64 1), .lit (.int .u64 10), .lit (.int .u64 100), .lit (.int .u64 1000), .lit (.int .u64 10000), .lit (.int .u64 100000), .lit (.int .u64 1000000), .lit (.int .u64 10000000), .lit (.int .u64 100000000), .lit (.int .u64 1000000000), .lit (.int .u64 10000000000), .lit (.int .u64 100000000000), .lit (.int .u64 1000000000000), .lit (.int .u64 10000000000000), .lit (.int .u64 100000000000000), .lit (.int .u64 1000000000000000), .lit (.int .u64 10000000000000000), .lit (.int .u64 100000000000000000), .lit (.int .u64 1000000000000000000), .lit (.int .u64 10000000000000000000)]
def laid_unicode_utf8_acceptRanges {H : Type} : DataW H := .agg [.agg [.lit (.int .u8 128), .lit (.int .u8 191)], .agg [.lit (.int .u8 160), .lit (.int .u8 191)], .agg [.lit (.int .u8 128), .lit (.int .u8 159)], .agg [.lit (.int .u8 144), .lit (.int .u8 191)], .agg [.lit (.int .u8 128), .lit (.int .u8 143)], .agg [.lit (.int .u8 0), .lit (.int .u8 0)], .agg [.lit (.int .u8 0), .lit (.int .u8 0)], .agg [.lit (.int .u8 0), .lit (.int .u8 0)], .agg [.lit (.int .u8 0), .lit (.int .u8 0)], .agg [.lit (.int .u8 0), .lit (.int .u8 0)], .agg [.lit (.int .u8 0), .lit (.int .u8 0)], .agg [.lit (.int .u8 0), .lit (.int .u8 0)], .agg [.lit (.int .u8 0), .lit (.int .u8 0)], .agg [.lit (.int .u8 0), .lit (.int .u8 0)], .agg [.lit (.int .u8 0), .lit (.int .u8 0)], .agg [.lit (.int .u8 0), .lit (.int .u8 0)]]
/-- One of Go's own tables, pinned by name: the form's constant. -/
def laid_unicode_utf8_first : DataW Unit := Go.Pinned.utf8First

/-- 'mahlsticklaw01.LetterPlaced': WHATEVER THE INPUT: true; the input reads as it did. -/
def letterPlacedSpec : ChangeSpec := { name := "letterPlaced", fn := fun _ => fun
  | [d1, d2, d3] => { results := [.lit (.bool true)], args := [d1, d2, d3] }
  | _ => none }
def letterPlacedRow : OpenClaim := { program := "ytjdgdinalodjfaagreatdoor", sum := "6872c3d036c3ae7d919a3777c2e3a0291eefb73cf23c2336135cc2f6dc7b9838", func := "mahlstick/mahlsticklaw01.LetterPlaced", spec := "letterPlaced", inPlace := ["internal/bytealg.CountString", "internal/bytealg.IndexByteString", "internal/bytealg.IndexString", "internal/abi.NoEscape", "internal/bytealg.MakeNoZero"], unfollowed := true, recurses := true, named := ["unicode/utf8.first", "unicode/utf8.acceptRanges", "internal/bytealg.MaxLen", "internal/strconv.uint64pow10", "math/bits.deBruijn32tab", "math/bits.deBruijn64tab"], plainKeys := false, apart := false, laid := [("math/bits.deBruijn32tab", laid_math_bits_deBruijn32tab), ("math/bits.deBruijn64tab", laid_math_bits_deBruijn64tab), ("internal/strconv.uint64pow10", laid_internal_strconv_uint64pow10), ("unicode/utf8.acceptRanges", laid_unicode_utf8_acceptRanges), ("unicode/utf8.first", laid_unicode_utf8_first)] }
def LetterPlacedSaid : Prop := letterPlacedRow.holds Tryz.pinned (OpenSpec.ofChange letterPlacedSpec)

/-- ITS FALSE NEIGHBOUR: 'it returns false'. Refute it at one input. -/
def letterPlacedWrong : ChangeSpec := { name := "letterPlaced", fn := fun _ => fun
  | [d1, d2, d3] => { results := [.lit (.bool false)], args := [d1, d2, d3] }
  | _ => none }
def LetterPlacedWrongFalsely : Prop := letterPlacedRow.holds Tryz.pinned (OpenSpec.ofChange letterPlacedWrong)

/-- 'mahlsticklaw01.LetterStretches': WHATEVER THE INPUT: true; the input reads as it did. -/
def letterStretchesSpec : ChangeSpec := { name := "letterStretches", fn := fun _ => fun
  | [d1, d2, d3] => { results := [.lit (.bool true)], args := [d1, d2, d3] }
  | _ => none }
def letterStretchesRow : OpenClaim := { program := "ytjdgdinalodjfaagreatdoor", sum := "6872c3d036c3ae7d919a3777c2e3a0291eefb73cf23c2336135cc2f6dc7b9838", func := "mahlstick/mahlsticklaw01.LetterStretches", spec := "letterStretches", inPlace := ["internal/bytealg.CountString", "internal/bytealg.IndexByteString", "internal/bytealg.IndexString", "internal/abi.NoEscape", "internal/bytealg.MakeNoZero"], unfollowed := true, recurses := true, named := ["unicode/utf8.first", "unicode/utf8.acceptRanges", "internal/bytealg.MaxLen", "internal/strconv.uint64pow10", "math/bits.deBruijn32tab", "math/bits.deBruijn64tab"], plainKeys := false, apart := false, laid := [("math/bits.deBruijn32tab", laid_math_bits_deBruijn32tab), ("math/bits.deBruijn64tab", laid_math_bits_deBruijn64tab), ("internal/strconv.uint64pow10", laid_internal_strconv_uint64pow10), ("unicode/utf8.acceptRanges", laid_unicode_utf8_acceptRanges), ("unicode/utf8.first", laid_unicode_utf8_first)] }
def LetterStretchesSaid : Prop := letterStretchesRow.holds Tryz.pinned (OpenSpec.ofChange letterStretchesSpec)

/-- ITS FALSE NEIGHBOUR: 'it returns false'. Refute it at one input. -/
def letterStretchesWrong : ChangeSpec := { name := "letterStretches", fn := fun _ => fun
  | [d1, d2, d3] => { results := [.lit (.bool false)], args := [d1, d2, d3] }
  | _ => none }
def LetterStretchesWrongFalsely : Prop := letterStretchesRow.holds Tryz.pinned (OpenSpec.ofChange letterStretchesWrong)

/-- 'mahlsticklaw01.LetterWide': WHATEVER THE INPUT: true; the input reads as it did. -/
def letterWideSpec : ChangeSpec := { name := "letterWide", fn := fun _ => fun
  | [d1, d2, d3, d4] => { results := [.lit (.bool true)], args := [d1, d2, d3, d4] }
  | _ => none }
def letterWideRow : OpenClaim := { program := "ytjdgdinalodjfaagreatdoor", sum := "6872c3d036c3ae7d919a3777c2e3a0291eefb73cf23c2336135cc2f6dc7b9838", func := "mahlstick/mahlsticklaw01.LetterWide", spec := "letterWide", inPlace := ["internal/bytealg.CountString", "internal/bytealg.IndexByteString", "internal/bytealg.IndexString", "internal/abi.NoEscape", "internal/bytealg.MakeNoZero"], unfollowed := true, recurses := true, named := ["unicode/utf8.first", "unicode/utf8.acceptRanges", "internal/bytealg.MaxLen", "internal/strconv.uint64pow10", "math/bits.deBruijn32tab", "math/bits.deBruijn64tab"], plainKeys := false, apart := false, laid := [("math/bits.deBruijn32tab", laid_math_bits_deBruijn32tab), ("math/bits.deBruijn64tab", laid_math_bits_deBruijn64tab), ("internal/strconv.uint64pow10", laid_internal_strconv_uint64pow10), ("unicode/utf8.acceptRanges", laid_unicode_utf8_acceptRanges), ("unicode/utf8.first", laid_unicode_utf8_first)] }
def LetterWideSaid : Prop := letterWideRow.holds Tryz.pinned (OpenSpec.ofChange letterWideSpec)

/-- ITS FALSE NEIGHBOUR: 'it returns false'. Refute it at one input. -/
def letterWideWrong : ChangeSpec := { name := "letterWide", fn := fun _ => fun
  | [d1, d2, d3, d4] => { results := [.lit (.bool false)], args := [d1, d2, d3, d4] }
  | _ => none }
def LetterWideWrongFalsely : Prop := letterWideRow.holds Tryz.pinned (OpenSpec.ofChange letterWideWrong)

/-- 'mahlsticklaw01.LetterSets': WHATEVER THE INPUT: true; the input reads as it did. -/
def letterSetsSpec : ChangeSpec := { name := "letterSets", fn := fun _ => fun
  | [d] => { results := [.lit (.bool true)], args := [d] }
  | _ => none }
def letterSetsRow : OpenClaim := { program := "ytjdgdinalodjfaagreatdoor", sum := "6872c3d036c3ae7d919a3777c2e3a0291eefb73cf23c2336135cc2f6dc7b9838", func := "mahlstick/mahlsticklaw01.LetterSets", spec := "letterSets", inPlace := ["internal/bytealg.CountString", "internal/bytealg.IndexByteString", "internal/bytealg.IndexString", "internal/abi.NoEscape", "internal/bytealg.MakeNoZero"], unfollowed := true, recurses := true, named := ["unicode/utf8.first", "unicode/utf8.acceptRanges", "internal/bytealg.MaxLen", "internal/strconv.uint64pow10", "math/bits.deBruijn32tab", "math/bits.deBruijn64tab"], plainKeys := false, apart := false, laid := [("math/bits.deBruijn32tab", laid_math_bits_deBruijn32tab), ("math/bits.deBruijn64tab", laid_math_bits_deBruijn64tab), ("internal/strconv.uint64pow10", laid_internal_strconv_uint64pow10), ("unicode/utf8.acceptRanges", laid_unicode_utf8_acceptRanges), ("unicode/utf8.first", laid_unicode_utf8_first)] }
def LetterSetsSaid : Prop := letterSetsRow.holds Tryz.pinned (OpenSpec.ofChange letterSetsSpec)

/-- ITS FALSE NEIGHBOUR: 'it returns false'. Refute it at one input. -/
def letterSetsWrong : ChangeSpec := { name := "letterSets", fn := fun _ => fun
  | [d] => { results := [.lit (.bool false)], args := [d] }
  | _ => none }
def LetterSetsWrongFalsely : Prop := letterSetsRow.holds Tryz.pinned (OpenSpec.ofChange letterSetsWrong)

/-- 'mahlsticklaw01.LetterRival': WHATEVER THE INPUT: true; the input reads as it did. -/
def letterRivalSpec : ChangeSpec := { name := "letterRival", fn := fun _ => fun
  | [d1, d2] => { results := [.lit (.bool true)], args := [d1, d2] }
  | _ => none }
def letterRivalRow : OpenClaim := { program := "ytjdgdinalodjfaagreatdoor", sum := "6872c3d036c3ae7d919a3777c2e3a0291eefb73cf23c2336135cc2f6dc7b9838", func := "mahlstick/mahlsticklaw01.LetterRival", spec := "letterRival", inPlace := ["internal/bytealg.CountString", "internal/bytealg.IndexByteString", "internal/bytealg.IndexString", "internal/abi.NoEscape", "internal/bytealg.MakeNoZero"], unfollowed := true, recurses := true, named := ["unicode/utf8.first", "unicode/utf8.acceptRanges", "internal/bytealg.MaxLen", "internal/strconv.uint64pow10", "math/bits.deBruijn32tab", "math/bits.deBruijn64tab"], plainKeys := false, apart := false, laid := [("math/bits.deBruijn32tab", laid_math_bits_deBruijn32tab), ("math/bits.deBruijn64tab", laid_math_bits_deBruijn64tab), ("internal/strconv.uint64pow10", laid_internal_strconv_uint64pow10), ("unicode/utf8.acceptRanges", laid_unicode_utf8_acceptRanges), ("unicode/utf8.first", laid_unicode_utf8_first)] }
def LetterRivalSaid : Prop := letterRivalRow.holds Tryz.pinned (OpenSpec.ofChange letterRivalSpec)

/-- ITS FALSE NEIGHBOUR: 'it returns false'. Refute it at one input. -/
def letterRivalWrong : ChangeSpec := { name := "letterRival", fn := fun _ => fun
  | [d1, d2] => { results := [.lit (.bool false)], args := [d1, d2] }
  | _ => none }
def LetterRivalWrongFalsely : Prop := letterRivalRow.holds Tryz.pinned (OpenSpec.ofChange letterRivalWrong)

/-- 'mahlsticklaw01.LetterCounts': WHATEVER THE INPUT: true; the input reads as it did. -/
def letterCountsSpec : ChangeSpec := { name := "letterCounts", fn := fun _ => fun
  | [d] => { results := [.lit (.bool true)], args := [d] }
  | _ => none }
def letterCountsRow : OpenClaim := { program := "ytjdgdinalodjfaagreatdoor", sum := "6872c3d036c3ae7d919a3777c2e3a0291eefb73cf23c2336135cc2f6dc7b9838", func := "mahlstick/mahlsticklaw01.LetterCounts", spec := "letterCounts", inPlace := ["internal/bytealg.CountString", "internal/bytealg.IndexByteString", "internal/bytealg.IndexString", "internal/abi.NoEscape", "internal/bytealg.MakeNoZero"], unfollowed := true, recurses := true, named := ["unicode/utf8.first", "unicode/utf8.acceptRanges", "internal/bytealg.MaxLen", "internal/strconv.uint64pow10", "math/bits.deBruijn32tab", "math/bits.deBruijn64tab"], plainKeys := false, apart := false, laid := [("math/bits.deBruijn32tab", laid_math_bits_deBruijn32tab), ("math/bits.deBruijn64tab", laid_math_bits_deBruijn64tab), ("internal/strconv.uint64pow10", laid_internal_strconv_uint64pow10), ("unicode/utf8.acceptRanges", laid_unicode_utf8_acceptRanges), ("unicode/utf8.first", laid_unicode_utf8_first)] }
def LetterCountsSaid : Prop := letterCountsRow.holds Tryz.pinned (OpenSpec.ofChange letterCountsSpec)

/-- ITS FALSE NEIGHBOUR: 'it returns false'. Refute it at one input. -/
def letterCountsWrong : ChangeSpec := { name := "letterCounts", fn := fun _ => fun
  | [d] => { results := [.lit (.bool false)], args := [d] }
  | _ => none }
def LetterCountsWrongFalsely : Prop := letterCountsRow.holds Tryz.pinned (OpenSpec.ofChange letterCountsWrong)

/-- 'mahlsticklaw01.LetterListed': WHATEVER THE INPUT: true; the input reads as it did. -/
def letterListedSpec : ChangeSpec := { name := "letterListed", fn := fun _ => fun
  | [d1, d2] => { results := [.lit (.bool true)], args := [d1, d2] }
  | _ => none }
def letterListedRow : OpenClaim := { program := "ytjdgdinalodjfaagreatdoor", sum := "6872c3d036c3ae7d919a3777c2e3a0291eefb73cf23c2336135cc2f6dc7b9838", func := "mahlstick/mahlsticklaw01.LetterListed", spec := "letterListed", inPlace := ["internal/bytealg.CountString", "internal/bytealg.IndexByteString", "internal/bytealg.IndexString", "internal/abi.NoEscape", "internal/bytealg.MakeNoZero"], unfollowed := true, recurses := true, named := ["unicode/utf8.first", "unicode/utf8.acceptRanges", "internal/bytealg.MaxLen", "internal/strconv.uint64pow10", "math/bits.deBruijn32tab", "math/bits.deBruijn64tab"], plainKeys := false, apart := false, laid := [("math/bits.deBruijn32tab", laid_math_bits_deBruijn32tab), ("math/bits.deBruijn64tab", laid_math_bits_deBruijn64tab), ("internal/strconv.uint64pow10", laid_internal_strconv_uint64pow10), ("unicode/utf8.acceptRanges", laid_unicode_utf8_acceptRanges), ("unicode/utf8.first", laid_unicode_utf8_first)] }
def LetterListedSaid : Prop := letterListedRow.holds Tryz.pinned (OpenSpec.ofChange letterListedSpec)

/-- ITS FALSE NEIGHBOUR: 'it returns false'. Refute it at one input. -/
def letterListedWrong : ChangeSpec := { name := "letterListed", fn := fun _ => fun
  | [d1, d2] => { results := [.lit (.bool false)], args := [d1, d2] }
  | _ => none }
def LetterListedWrongFalsely : Prop := letterListedRow.holds Tryz.pinned (OpenSpec.ofChange letterListedWrong)

/-- 'mahlsticklaw01.LetterDrops': WHATEVER THE INPUT: true; the input reads as it did. -/
def letterDropsSpec : ChangeSpec := { name := "letterDrops", fn := fun _ => fun
  | [d] => { results := [.lit (.bool true)], args := [d] }
  | _ => none }
def letterDropsRow : OpenClaim := { program := "ytjdgdinalodjfaagreatdoor", sum := "6872c3d036c3ae7d919a3777c2e3a0291eefb73cf23c2336135cc2f6dc7b9838", func := "mahlstick/mahlsticklaw01.LetterDrops", spec := "letterDrops", inPlace := ["internal/bytealg.CountString", "internal/bytealg.IndexByteString", "internal/bytealg.IndexString", "internal/abi.NoEscape", "internal/bytealg.MakeNoZero"], unfollowed := true, recurses := true, named := ["unicode/utf8.first", "unicode/utf8.acceptRanges", "internal/bytealg.MaxLen", "internal/strconv.uint64pow10", "math/bits.deBruijn32tab", "math/bits.deBruijn64tab"], plainKeys := false, apart := false, laid := [("math/bits.deBruijn32tab", laid_math_bits_deBruijn32tab), ("math/bits.deBruijn64tab", laid_math_bits_deBruijn64tab), ("internal/strconv.uint64pow10", laid_internal_strconv_uint64pow10), ("unicode/utf8.acceptRanges", laid_unicode_utf8_acceptRanges), ("unicode/utf8.first", laid_unicode_utf8_first)] }
def LetterDropsSaid : Prop := letterDropsRow.holds Tryz.pinned (OpenSpec.ofChange letterDropsSpec)

/-- ITS FALSE NEIGHBOUR: 'it returns false'. Refute it at one input. -/
def letterDropsWrong : ChangeSpec := { name := "letterDrops", fn := fun _ => fun
  | [d] => { results := [.lit (.bool false)], args := [d] }
  | _ => none }
def LetterDropsWrongFalsely : Prop := letterDropsRow.holds Tryz.pinned (OpenSpec.ofChange letterDropsWrong)

/-- 'mahlsticklaw01.LetterLess': WHATEVER THE INPUT: true; the input reads as it did. -/
def letterLessSpec : ChangeSpec := { name := "letterLess", fn := fun _ => fun
  | [d1, d2] => { results := [.lit (.bool true)], args := [d1, d2] }
  | _ => none }
def letterLessRow : OpenClaim := { program := "ytjdgdinalodjfaagreatdoor", sum := "6872c3d036c3ae7d919a3777c2e3a0291eefb73cf23c2336135cc2f6dc7b9838", func := "mahlstick/mahlsticklaw01.LetterLess", spec := "letterLess", inPlace := ["internal/bytealg.CountString", "internal/bytealg.IndexByteString", "internal/bytealg.IndexString", "internal/abi.NoEscape", "internal/bytealg.MakeNoZero"], unfollowed := true, recurses := true, named := ["unicode/utf8.first", "unicode/utf8.acceptRanges", "internal/bytealg.MaxLen", "internal/strconv.uint64pow10", "math/bits.deBruijn32tab", "math/bits.deBruijn64tab"], plainKeys := false, apart := false, laid := [("math/bits.deBruijn32tab", laid_math_bits_deBruijn32tab), ("math/bits.deBruijn64tab", laid_math_bits_deBruijn64tab), ("internal/strconv.uint64pow10", laid_internal_strconv_uint64pow10), ("unicode/utf8.acceptRanges", laid_unicode_utf8_acceptRanges), ("unicode/utf8.first", laid_unicode_utf8_first)] }
def LetterLessSaid : Prop := letterLessRow.holds Tryz.pinned (OpenSpec.ofChange letterLessSpec)

/-- ITS FALSE NEIGHBOUR: 'it returns false'. Refute it at one input. -/
def letterLessWrong : ChangeSpec := { name := "letterLess", fn := fun _ => fun
  | [d1, d2] => { results := [.lit (.bool false)], args := [d1, d2] }
  | _ => none }
def LetterLessWrongFalsely : Prop := letterLessRow.holds Tryz.pinned (OpenSpec.ofChange letterLessWrong)

/-- 'mahlsticklaw01.LetterOvers': WHATEVER THE INPUT: true; the input reads as it did. -/
def letterOversSpec : ChangeSpec := { name := "letterOvers", fn := fun _ => fun
  | [d] => { results := [.lit (.bool true)], args := [d] }
  | _ => none }
def letterOversRow : OpenClaim := { program := "ytjdgdinalodjfaagreatdoor", sum := "6872c3d036c3ae7d919a3777c2e3a0291eefb73cf23c2336135cc2f6dc7b9838", func := "mahlstick/mahlsticklaw01.LetterOvers", spec := "letterOvers", inPlace := ["internal/bytealg.CountString", "internal/bytealg.IndexByteString", "internal/bytealg.IndexString", "internal/abi.NoEscape", "internal/bytealg.MakeNoZero"], unfollowed := true, recurses := true, named := ["unicode/utf8.first", "unicode/utf8.acceptRanges", "internal/bytealg.MaxLen", "internal/strconv.uint64pow10", "math/bits.deBruijn32tab", "math/bits.deBruijn64tab"], plainKeys := false, apart := false, laid := [("math/bits.deBruijn32tab", laid_math_bits_deBruijn32tab), ("math/bits.deBruijn64tab", laid_math_bits_deBruijn64tab), ("internal/strconv.uint64pow10", laid_internal_strconv_uint64pow10), ("unicode/utf8.acceptRanges", laid_unicode_utf8_acceptRanges), ("unicode/utf8.first", laid_unicode_utf8_first)] }
def LetterOversSaid : Prop := letterOversRow.holds Tryz.pinned (OpenSpec.ofChange letterOversSpec)

/-- ITS FALSE NEIGHBOUR: 'it returns false'. Refute it at one input. -/
def letterOversWrong : ChangeSpec := { name := "letterOvers", fn := fun _ => fun
  | [d] => { results := [.lit (.bool false)], args := [d] }
  | _ => none }
def LetterOversWrongFalsely : Prop := letterOversRow.holds Tryz.pinned (OpenSpec.ofChange letterOversWrong)

/-- 'mahlsticklaw01.LetterCutOff': WHATEVER THE INPUT: true; the input reads as it did. -/
def letterCutOffSpec : ChangeSpec := { name := "letterCutOff", fn := fun _ => fun
  | [d1, d2] => { results := [.lit (.bool true)], args := [d1, d2] }
  | _ => none }
def letterCutOffRow : OpenClaim := { program := "ytjdgdinalodjfaagreatdoor", sum := "6872c3d036c3ae7d919a3777c2e3a0291eefb73cf23c2336135cc2f6dc7b9838", func := "mahlstick/mahlsticklaw01.LetterCutOff", spec := "letterCutOff", inPlace := ["internal/bytealg.CountString", "internal/bytealg.IndexByteString", "internal/bytealg.IndexString", "internal/abi.NoEscape", "internal/bytealg.MakeNoZero"], unfollowed := true, recurses := true, named := ["unicode/utf8.first", "unicode/utf8.acceptRanges", "internal/bytealg.MaxLen", "internal/strconv.uint64pow10", "math/bits.deBruijn32tab", "math/bits.deBruijn64tab"], plainKeys := false, apart := false, laid := [("math/bits.deBruijn32tab", laid_math_bits_deBruijn32tab), ("math/bits.deBruijn64tab", laid_math_bits_deBruijn64tab), ("internal/strconv.uint64pow10", laid_internal_strconv_uint64pow10), ("unicode/utf8.acceptRanges", laid_unicode_utf8_acceptRanges), ("unicode/utf8.first", laid_unicode_utf8_first)] }
def LetterCutOffSaid : Prop := letterCutOffRow.holds Tryz.pinned (OpenSpec.ofChange letterCutOffSpec)

/-- ITS FALSE NEIGHBOUR: 'it returns false'. Refute it at one input. -/
def letterCutOffWrong : ChangeSpec := { name := "letterCutOff", fn := fun _ => fun
  | [d1, d2] => { results := [.lit (.bool false)], args := [d1, d2] }
  | _ => none }
def LetterCutOffWrongFalsely : Prop := letterCutOffRow.holds Tryz.pinned (OpenSpec.ofChange letterCutOffWrong)

/-- 'mahlsticklaw01.LetterFronts': WHATEVER THE INPUT: true; the input reads as it did. -/
def letterFrontsSpec : ChangeSpec := { name := "letterFronts", fn := fun _ => fun
  | [d1, d2, d3] => { results := [.lit (.bool true)], args := [d1, d2, d3] }
  | _ => none }
def letterFrontsRow : OpenClaim := { program := "ytjdgdinalodjfaagreatdoor", sum := "6872c3d036c3ae7d919a3777c2e3a0291eefb73cf23c2336135cc2f6dc7b9838", func := "mahlstick/mahlsticklaw01.LetterFronts", spec := "letterFronts", inPlace := ["internal/bytealg.CountString", "internal/bytealg.IndexByteString", "internal/bytealg.IndexString", "internal/abi.NoEscape", "internal/bytealg.MakeNoZero"], unfollowed := true, recurses := true, named := ["unicode/utf8.first", "unicode/utf8.acceptRanges", "internal/bytealg.MaxLen", "internal/strconv.uint64pow10", "math/bits.deBruijn32tab", "math/bits.deBruijn64tab"], plainKeys := false, apart := false, laid := [("math/bits.deBruijn32tab", laid_math_bits_deBruijn32tab), ("math/bits.deBruijn64tab", laid_math_bits_deBruijn64tab), ("internal/strconv.uint64pow10", laid_internal_strconv_uint64pow10), ("unicode/utf8.acceptRanges", laid_unicode_utf8_acceptRanges), ("unicode/utf8.first", laid_unicode_utf8_first)] }
def LetterFrontsSaid : Prop := letterFrontsRow.holds Tryz.pinned (OpenSpec.ofChange letterFrontsSpec)

/-- ITS FALSE NEIGHBOUR: 'it returns false'. Refute it at one input. -/
def letterFrontsWrong : ChangeSpec := { name := "letterFronts", fn := fun _ => fun
  | [d1, d2, d3] => { results := [.lit (.bool false)], args := [d1, d2, d3] }
  | _ => none }
def LetterFrontsWrongFalsely : Prop := letterFrontsRow.holds Tryz.pinned (OpenSpec.ofChange letterFrontsWrong)

/-- 'mahlsticklaw01.LetterAlikes': WHATEVER THE INPUT: true; the input reads as it did. -/
def letterAlikesSpec : ChangeSpec := { name := "letterAlikes", fn := fun _ => fun
  | [d] => { results := [.lit (.bool true)], args := [d] }
  | _ => none }
def letterAlikesRow : OpenClaim := { program := "ytjdgdinalodjfaagreatdoor", sum := "6872c3d036c3ae7d919a3777c2e3a0291eefb73cf23c2336135cc2f6dc7b9838", func := "mahlstick/mahlsticklaw01.LetterAlikes", spec := "letterAlikes", inPlace := ["internal/bytealg.CountString", "internal/bytealg.IndexByteString", "internal/bytealg.IndexString", "internal/abi.NoEscape", "internal/bytealg.MakeNoZero"], unfollowed := true, recurses := true, named := ["unicode/utf8.first", "unicode/utf8.acceptRanges", "internal/bytealg.MaxLen", "internal/strconv.uint64pow10", "math/bits.deBruijn32tab", "math/bits.deBruijn64tab"], plainKeys := false, apart := false, laid := [("math/bits.deBruijn32tab", laid_math_bits_deBruijn32tab), ("math/bits.deBruijn64tab", laid_math_bits_deBruijn64tab), ("internal/strconv.uint64pow10", laid_internal_strconv_uint64pow10), ("unicode/utf8.acceptRanges", laid_unicode_utf8_acceptRanges), ("unicode/utf8.first", laid_unicode_utf8_first)] }
def LetterAlikesSaid : Prop := letterAlikesRow.holds Tryz.pinned (OpenSpec.ofChange letterAlikesSpec)

/-- ITS FALSE NEIGHBOUR: 'it returns false'. Refute it at one input. -/
def letterAlikesWrong : ChangeSpec := { name := "letterAlikes", fn := fun _ => fun
  | [d] => { results := [.lit (.bool false)], args := [d] }
  | _ => none }
def LetterAlikesWrongFalsely : Prop := letterAlikesRow.holds Tryz.pinned (OpenSpec.ofChange letterAlikesWrong)

/-- 'mahlsticklaw01.LetterFell': WHATEVER THE INPUT: true; the input reads as it did. -/
def letterFellSpec : ChangeSpec := { name := "letterFell", fn := fun _ => fun
  | [d1, d2, d3, d4, d5] => { results := [.lit (.bool true)], args := [d1, d2, d3, d4, d5] }
  | _ => none }
def letterFellRow : OpenClaim := { program := "ytjdgdinalodjfaagreatdoor", sum := "6872c3d036c3ae7d919a3777c2e3a0291eefb73cf23c2336135cc2f6dc7b9838", func := "mahlstick/mahlsticklaw01.LetterFell", spec := "letterFell", inPlace := ["internal/bytealg.CountString", "internal/bytealg.IndexByteString", "internal/bytealg.IndexString", "internal/abi.NoEscape", "internal/bytealg.MakeNoZero"], unfollowed := true, recurses := true, named := ["unicode/utf8.first", "unicode/utf8.acceptRanges", "internal/bytealg.MaxLen", "internal/strconv.uint64pow10", "math/bits.deBruijn32tab", "math/bits.deBruijn64tab"], plainKeys := false, apart := false, laid := [("math/bits.deBruijn32tab", laid_math_bits_deBruijn32tab), ("math/bits.deBruijn64tab", laid_math_bits_deBruijn64tab), ("internal/strconv.uint64pow10", laid_internal_strconv_uint64pow10), ("unicode/utf8.acceptRanges", laid_unicode_utf8_acceptRanges), ("unicode/utf8.first", laid_unicode_utf8_first)] }
def LetterFellSaid : Prop := letterFellRow.holds Tryz.pinned (OpenSpec.ofChange letterFellSpec)

/-- ITS FALSE NEIGHBOUR: 'it returns false'. Refute it at one input. -/
def letterFellWrong : ChangeSpec := { name := "letterFell", fn := fun _ => fun
  | [d1, d2, d3, d4, d5] => { results := [.lit (.bool false)], args := [d1, d2, d3, d4, d5] }
  | _ => none }
def LetterFellWrongFalsely : Prop := letterFellRow.holds Tryz.pinned (OpenSpec.ofChange letterFellWrong)

/-- 'mahlsticklaw01.LetterMore': WHATEVER THE INPUT: true; the input reads as it did. -/
def letterMoreSpec : ChangeSpec := { name := "letterMore", fn := fun _ => fun
  | [d1, d2, d3, d4, d5] => { results := [.lit (.bool true)], args := [d1, d2, d3, d4, d5] }
  | _ => none }
def letterMoreRow : OpenClaim := { program := "ytjdgdinalodjfaagreatdoor", sum := "6872c3d036c3ae7d919a3777c2e3a0291eefb73cf23c2336135cc2f6dc7b9838", func := "mahlstick/mahlsticklaw01.LetterMore", spec := "letterMore", inPlace := ["internal/bytealg.CountString", "internal/bytealg.IndexByteString", "internal/bytealg.IndexString", "internal/abi.NoEscape", "internal/bytealg.MakeNoZero"], unfollowed := true, recurses := true, named := ["unicode/utf8.first", "unicode/utf8.acceptRanges", "internal/bytealg.MaxLen", "internal/strconv.uint64pow10", "math/bits.deBruijn32tab", "math/bits.deBruijn64tab"], plainKeys := false, apart := false, laid := [("math/bits.deBruijn32tab", laid_math_bits_deBruijn32tab), ("math/bits.deBruijn64tab", laid_math_bits_deBruijn64tab), ("internal/strconv.uint64pow10", laid_internal_strconv_uint64pow10), ("unicode/utf8.acceptRanges", laid_unicode_utf8_acceptRanges), ("unicode/utf8.first", laid_unicode_utf8_first)] }
def LetterMoreSaid : Prop := letterMoreRow.holds Tryz.pinned (OpenSpec.ofChange letterMoreSpec)

/-- ITS FALSE NEIGHBOUR: 'it returns false'. Refute it at one input. -/
def letterMoreWrong : ChangeSpec := { name := "letterMore", fn := fun _ => fun
  | [d1, d2, d3, d4, d5] => { results := [.lit (.bool false)], args := [d1, d2, d3, d4, d5] }
  | _ => none }
def LetterMoreWrongFalsely : Prop := letterMoreRow.holds Tryz.pinned (OpenSpec.ofChange letterMoreWrong)

/-- 'mahlsticklaw01.LetterWidths': WHATEVER THE INPUT: true; the input reads as it did. -/
def letterWidthsSpec : ChangeSpec := { name := "letterWidths", fn := fun _ => fun
  | [d1, d2, d3] => { results := [.lit (.bool true)], args := [d1, d2, d3] }
  | _ => none }
def letterWidthsRow : OpenClaim := { program := "ytjdgdinalodjfaagreatdoor", sum := "6872c3d036c3ae7d919a3777c2e3a0291eefb73cf23c2336135cc2f6dc7b9838", func := "mahlstick/mahlsticklaw01.LetterWidths", spec := "letterWidths", inPlace := ["internal/bytealg.CountString", "internal/bytealg.IndexByteString", "internal/bytealg.IndexString", "internal/abi.NoEscape", "internal/bytealg.MakeNoZero"], unfollowed := true, recurses := true, named := ["unicode/utf8.first", "unicode/utf8.acceptRanges", "internal/bytealg.MaxLen", "internal/strconv.uint64pow10", "math/bits.deBruijn32tab", "math/bits.deBruijn64tab"], plainKeys := false, apart := false, laid := [("math/bits.deBruijn32tab", laid_math_bits_deBruijn32tab), ("math/bits.deBruijn64tab", laid_math_bits_deBruijn64tab), ("internal/strconv.uint64pow10", laid_internal_strconv_uint64pow10), ("unicode/utf8.acceptRanges", laid_unicode_utf8_acceptRanges), ("unicode/utf8.first", laid_unicode_utf8_first)] }
def LetterWidthsSaid : Prop := letterWidthsRow.holds Tryz.pinned (OpenSpec.ofChange letterWidthsSpec)

/-- ITS FALSE NEIGHBOUR: 'it returns false'. Refute it at one input. -/
def letterWidthsWrong : ChangeSpec := { name := "letterWidths", fn := fun _ => fun
  | [d1, d2, d3] => { results := [.lit (.bool false)], args := [d1, d2, d3] }
  | _ => none }
def LetterWidthsWrongFalsely : Prop := letterWidthsRow.holds Tryz.pinned (OpenSpec.ofChange letterWidthsWrong)

/-- 'mahlsticklaw01.LetterPrints': WHATEVER THE INPUT: true; the input reads as it did. -/
def letterPrintsSpec : ChangeSpec := { name := "letterPrints", fn := fun _ => fun
  | [d] => { results := [.lit (.bool true)], args := [d] }
  | _ => none }
def letterPrintsRow : OpenClaim := { program := "ytjdgdinalodjfaagreatdoor", sum := "6872c3d036c3ae7d919a3777c2e3a0291eefb73cf23c2336135cc2f6dc7b9838", func := "mahlstick/mahlsticklaw01.LetterPrints", spec := "letterPrints", inPlace := ["internal/bytealg.CountString", "internal/bytealg.IndexByteString", "internal/bytealg.IndexString", "internal/abi.NoEscape", "internal/bytealg.MakeNoZero"], unfollowed := true, recurses := true, named := ["unicode/utf8.first", "unicode/utf8.acceptRanges", "internal/bytealg.MaxLen", "internal/strconv.uint64pow10", "math/bits.deBruijn32tab", "math/bits.deBruijn64tab"], plainKeys := false, apart := false, laid := [("math/bits.deBruijn32tab", laid_math_bits_deBruijn32tab), ("math/bits.deBruijn64tab", laid_math_bits_deBruijn64tab), ("internal/strconv.uint64pow10", laid_internal_strconv_uint64pow10), ("unicode/utf8.acceptRanges", laid_unicode_utf8_acceptRanges), ("unicode/utf8.first", laid_unicode_utf8_first)] }
def LetterPrintsSaid : Prop := letterPrintsRow.holds Tryz.pinned (OpenSpec.ofChange letterPrintsSpec)

/-- ITS FALSE NEIGHBOUR: 'it returns false'. Refute it at one input. -/
def letterPrintsWrong : ChangeSpec := { name := "letterPrints", fn := fun _ => fun
  | [d] => { results := [.lit (.bool false)], args := [d] }
  | _ => none }
def LetterPrintsWrongFalsely : Prop := letterPrintsRow.holds Tryz.pinned (OpenSpec.ofChange letterPrintsWrong)

/-- 'mahlsticklaw01.LetterReads': WHATEVER THE INPUT: true; the input reads as it did. -/
def letterReadsSpec : ChangeSpec := { name := "letterReads", fn := fun _ => fun
  | [d] => { results := [.lit (.bool true)], args := [d] }
  | _ => none }
def letterReadsRow : OpenClaim := { program := "ytjdgdinalodjfaagreatdoor", sum := "6872c3d036c3ae7d919a3777c2e3a0291eefb73cf23c2336135cc2f6dc7b9838", func := "mahlstick/mahlsticklaw01.LetterReads", spec := "letterReads", inPlace := ["internal/bytealg.CountString", "internal/bytealg.IndexByteString", "internal/bytealg.IndexString", "internal/abi.NoEscape", "internal/bytealg.MakeNoZero"], unfollowed := true, recurses := true, named := ["unicode/utf8.first", "unicode/utf8.acceptRanges", "internal/bytealg.MaxLen", "internal/strconv.uint64pow10", "math/bits.deBruijn32tab", "math/bits.deBruijn64tab"], plainKeys := false, apart := false, laid := [("math/bits.deBruijn32tab", laid_math_bits_deBruijn32tab), ("math/bits.deBruijn64tab", laid_math_bits_deBruijn64tab), ("internal/strconv.uint64pow10", laid_internal_strconv_uint64pow10), ("unicode/utf8.acceptRanges", laid_unicode_utf8_acceptRanges), ("unicode/utf8.first", laid_unicode_utf8_first)] }
def LetterReadsSaid : Prop := letterReadsRow.holds Tryz.pinned (OpenSpec.ofChange letterReadsSpec)

/-- ITS FALSE NEIGHBOUR: 'it returns false'. Refute it at one input. -/
def letterReadsWrong : ChangeSpec := { name := "letterReads", fn := fun _ => fun
  | [d] => { results := [.lit (.bool false)], args := [d] }
  | _ => none }
def LetterReadsWrongFalsely : Prop := letterReadsRow.holds Tryz.pinned (OpenSpec.ofChange letterReadsWrong)

/-- 'mahlsticklaw01.LetterSpoilt': WHATEVER THE INPUT: true; the input reads as it did. -/
def letterSpoiltSpec : ChangeSpec := { name := "letterSpoilt", fn := fun _ => fun
  | [d1, d2, d3] => { results := [.lit (.bool true)], args := [d1, d2, d3] }
  | _ => none }
def letterSpoiltRow : OpenClaim := { program := "ytjdgdinalodjfaagreatdoor", sum := "6872c3d036c3ae7d919a3777c2e3a0291eefb73cf23c2336135cc2f6dc7b9838", func := "mahlstick/mahlsticklaw01.LetterSpoilt", spec := "letterSpoilt", inPlace := ["internal/bytealg.CountString", "internal/bytealg.IndexByteString", "internal/bytealg.IndexString", "internal/abi.NoEscape", "internal/bytealg.MakeNoZero"], unfollowed := true, recurses := true, named := ["unicode/utf8.first", "unicode/utf8.acceptRanges", "internal/bytealg.MaxLen", "internal/strconv.uint64pow10", "math/bits.deBruijn32tab", "math/bits.deBruijn64tab"], plainKeys := false, apart := false, laid := [("math/bits.deBruijn32tab", laid_math_bits_deBruijn32tab), ("math/bits.deBruijn64tab", laid_math_bits_deBruijn64tab), ("internal/strconv.uint64pow10", laid_internal_strconv_uint64pow10), ("unicode/utf8.acceptRanges", laid_unicode_utf8_acceptRanges), ("unicode/utf8.first", laid_unicode_utf8_first)] }
def LetterSpoiltSaid : Prop := letterSpoiltRow.holds Tryz.pinned (OpenSpec.ofChange letterSpoiltSpec)

/-- ITS FALSE NEIGHBOUR: 'it returns false'. Refute it at one input. -/
def letterSpoiltWrong : ChangeSpec := { name := "letterSpoilt", fn := fun _ => fun
  | [d1, d2, d3] => { results := [.lit (.bool false)], args := [d1, d2, d3] }
  | _ => none }
def LetterSpoiltWrongFalsely : Prop := letterSpoiltRow.holds Tryz.pinned (OpenSpec.ofChange letterSpoiltWrong)

/- THE SECOND FORM. 'bulk': how many values and letters a reading holds, each counted each time it is reached (what is shared counts as often as it is met; a slice's spare places count too). A statement '..UptoSaid' is the law's where the arguments, and the package variables that the reading takes, are together of bulk at most 1048576: NARROWER than '..Said'. Prove '..Said' where nothing that the law and all that it calls make is longer than what came in: it says more and counts as full. Else prove '..UptoSaid'. A law counts once. -/
mutual
def uptoBulk {H : Type} : DataW H → Nat
  | .lit (.string bytes) => bytes.length + 1
  | .lit _ => 1
  | .nil => 1
  | .ptr d => uptoBulk d + 1
  | .slice elems spare => uptoBulkAll elems + uptoBulkAll spare + 1
  | .agg parts => uptoBulkAll parts + 1
  | .iface _ d => uptoBulk d + 1
  | .map entries => uptoBulkEntries entries + 1
  | .held _ => 1
def uptoBulkAll {H : Type} : List (DataW H) → Nat
  | [] => 0
  | d :: r => uptoBulk d + uptoBulkAll r
def uptoBulkEntries {H : Type} : List (Lit × DataW H) → Nat
  | [] => 0
  | x :: r => uptoBulkEntry x + uptoBulkEntries r
def uptoBulkEntry {H : Type} : Lit × DataW H → Nat
  | (.string bytes, d) => bytes.length + uptoBulk d + 1
  | (_, d) => uptoBulk d + 1
 end
def uptoSmall : (H : Type) → List (DataW H) → Bool := fun _ ds => decide (uptoBulkAll ds ≤ 1048576)
def OpenSpec.upto (s : _root_.Go.ChangeSpec) : _root_.Go.OpenSpec := { _root_.Go.OpenSpec.ofChange s with cond := some uptoSmall }

/-- 'mahlsticklaw01.LetterPlaced', WHERE WHAT IT READS IS OF BULK AT MOST 1048576: true; the input reads as it did. -/
def letterPlacedUptoRow : OpenClaim := { program := "ytjdgdinalodjfaagreatdoor", sum := "6872c3d036c3ae7d919a3777c2e3a0291eefb73cf23c2336135cc2f6dc7b9838", func := "mahlstick/mahlsticklaw01.LetterPlaced", spec := "letterPlaced", inPlace := ["internal/bytealg.CountString", "internal/bytealg.IndexByteString", "internal/bytealg.IndexString", "internal/abi.NoEscape", "internal/bytealg.MakeNoZero"], unfollowed := true, recurses := true, named := ["unicode/utf8.first", "unicode/utf8.acceptRanges", "internal/bytealg.MaxLen", "internal/strconv.uint64pow10", "math/bits.deBruijn32tab", "math/bits.deBruijn64tab"], plainKeys := false, apart := false, laid := [("math/bits.deBruijn32tab", laid_math_bits_deBruijn32tab), ("math/bits.deBruijn64tab", laid_math_bits_deBruijn64tab), ("internal/strconv.uint64pow10", laid_internal_strconv_uint64pow10), ("unicode/utf8.acceptRanges", laid_unicode_utf8_acceptRanges), ("unicode/utf8.first", laid_unicode_utf8_first)], narrowed := true }
def LetterPlacedUptoSaid : Prop := letterPlacedUptoRow.holds Tryz.pinned (OpenSpec.upto letterPlacedSpec)

/-- 'mahlsticklaw01.LetterStretches', WHERE WHAT IT READS IS OF BULK AT MOST 1048576: true; the input reads as it did. -/
def letterStretchesUptoRow : OpenClaim := { program := "ytjdgdinalodjfaagreatdoor", sum := "6872c3d036c3ae7d919a3777c2e3a0291eefb73cf23c2336135cc2f6dc7b9838", func := "mahlstick/mahlsticklaw01.LetterStretches", spec := "letterStretches", inPlace := ["internal/bytealg.CountString", "internal/bytealg.IndexByteString", "internal/bytealg.IndexString", "internal/abi.NoEscape", "internal/bytealg.MakeNoZero"], unfollowed := true, recurses := true, named := ["unicode/utf8.first", "unicode/utf8.acceptRanges", "internal/bytealg.MaxLen", "internal/strconv.uint64pow10", "math/bits.deBruijn32tab", "math/bits.deBruijn64tab"], plainKeys := false, apart := false, laid := [("math/bits.deBruijn32tab", laid_math_bits_deBruijn32tab), ("math/bits.deBruijn64tab", laid_math_bits_deBruijn64tab), ("internal/strconv.uint64pow10", laid_internal_strconv_uint64pow10), ("unicode/utf8.acceptRanges", laid_unicode_utf8_acceptRanges), ("unicode/utf8.first", laid_unicode_utf8_first)], narrowed := true }
def LetterStretchesUptoSaid : Prop := letterStretchesUptoRow.holds Tryz.pinned (OpenSpec.upto letterStretchesSpec)

/-- 'mahlsticklaw01.LetterWide', WHERE WHAT IT READS IS OF BULK AT MOST 1048576: true; the input reads as it did. -/
def letterWideUptoRow : OpenClaim := { program := "ytjdgdinalodjfaagreatdoor", sum := "6872c3d036c3ae7d919a3777c2e3a0291eefb73cf23c2336135cc2f6dc7b9838", func := "mahlstick/mahlsticklaw01.LetterWide", spec := "letterWide", inPlace := ["internal/bytealg.CountString", "internal/bytealg.IndexByteString", "internal/bytealg.IndexString", "internal/abi.NoEscape", "internal/bytealg.MakeNoZero"], unfollowed := true, recurses := true, named := ["unicode/utf8.first", "unicode/utf8.acceptRanges", "internal/bytealg.MaxLen", "internal/strconv.uint64pow10", "math/bits.deBruijn32tab", "math/bits.deBruijn64tab"], plainKeys := false, apart := false, laid := [("math/bits.deBruijn32tab", laid_math_bits_deBruijn32tab), ("math/bits.deBruijn64tab", laid_math_bits_deBruijn64tab), ("internal/strconv.uint64pow10", laid_internal_strconv_uint64pow10), ("unicode/utf8.acceptRanges", laid_unicode_utf8_acceptRanges), ("unicode/utf8.first", laid_unicode_utf8_first)], narrowed := true }
def LetterWideUptoSaid : Prop := letterWideUptoRow.holds Tryz.pinned (OpenSpec.upto letterWideSpec)

/-- 'mahlsticklaw01.LetterSets', WHERE WHAT IT READS IS OF BULK AT MOST 1048576: true; the input reads as it did. -/
def letterSetsUptoRow : OpenClaim := { program := "ytjdgdinalodjfaagreatdoor", sum := "6872c3d036c3ae7d919a3777c2e3a0291eefb73cf23c2336135cc2f6dc7b9838", func := "mahlstick/mahlsticklaw01.LetterSets", spec := "letterSets", inPlace := ["internal/bytealg.CountString", "internal/bytealg.IndexByteString", "internal/bytealg.IndexString", "internal/abi.NoEscape", "internal/bytealg.MakeNoZero"], unfollowed := true, recurses := true, named := ["unicode/utf8.first", "unicode/utf8.acceptRanges", "internal/bytealg.MaxLen", "internal/strconv.uint64pow10", "math/bits.deBruijn32tab", "math/bits.deBruijn64tab"], plainKeys := false, apart := false, laid := [("math/bits.deBruijn32tab", laid_math_bits_deBruijn32tab), ("math/bits.deBruijn64tab", laid_math_bits_deBruijn64tab), ("internal/strconv.uint64pow10", laid_internal_strconv_uint64pow10), ("unicode/utf8.acceptRanges", laid_unicode_utf8_acceptRanges), ("unicode/utf8.first", laid_unicode_utf8_first)], narrowed := true }
def LetterSetsUptoSaid : Prop := letterSetsUptoRow.holds Tryz.pinned (OpenSpec.upto letterSetsSpec)

/-- 'mahlsticklaw01.LetterRival', WHERE WHAT IT READS IS OF BULK AT MOST 1048576: true; the input reads as it did. -/
def letterRivalUptoRow : OpenClaim := { program := "ytjdgdinalodjfaagreatdoor", sum := "6872c3d036c3ae7d919a3777c2e3a0291eefb73cf23c2336135cc2f6dc7b9838", func := "mahlstick/mahlsticklaw01.LetterRival", spec := "letterRival", inPlace := ["internal/bytealg.CountString", "internal/bytealg.IndexByteString", "internal/bytealg.IndexString", "internal/abi.NoEscape", "internal/bytealg.MakeNoZero"], unfollowed := true, recurses := true, named := ["unicode/utf8.first", "unicode/utf8.acceptRanges", "internal/bytealg.MaxLen", "internal/strconv.uint64pow10", "math/bits.deBruijn32tab", "math/bits.deBruijn64tab"], plainKeys := false, apart := false, laid := [("math/bits.deBruijn32tab", laid_math_bits_deBruijn32tab), ("math/bits.deBruijn64tab", laid_math_bits_deBruijn64tab), ("internal/strconv.uint64pow10", laid_internal_strconv_uint64pow10), ("unicode/utf8.acceptRanges", laid_unicode_utf8_acceptRanges), ("unicode/utf8.first", laid_unicode_utf8_first)], narrowed := true }
def LetterRivalUptoSaid : Prop := letterRivalUptoRow.holds Tryz.pinned (OpenSpec.upto letterRivalSpec)

/-- 'mahlsticklaw01.LetterCounts', WHERE WHAT IT READS IS OF BULK AT MOST 1048576: true; the input reads as it did. -/
def letterCountsUptoRow : OpenClaim := { program := "ytjdgdinalodjfaagreatdoor", sum := "6872c3d036c3ae7d919a3777c2e3a0291eefb73cf23c2336135cc2f6dc7b9838", func := "mahlstick/mahlsticklaw01.LetterCounts", spec := "letterCounts", inPlace := ["internal/bytealg.CountString", "internal/bytealg.IndexByteString", "internal/bytealg.IndexString", "internal/abi.NoEscape", "internal/bytealg.MakeNoZero"], unfollowed := true, recurses := true, named := ["unicode/utf8.first", "unicode/utf8.acceptRanges", "internal/bytealg.MaxLen", "internal/strconv.uint64pow10", "math/bits.deBruijn32tab", "math/bits.deBruijn64tab"], plainKeys := false, apart := false, laid := [("math/bits.deBruijn32tab", laid_math_bits_deBruijn32tab), ("math/bits.deBruijn64tab", laid_math_bits_deBruijn64tab), ("internal/strconv.uint64pow10", laid_internal_strconv_uint64pow10), ("unicode/utf8.acceptRanges", laid_unicode_utf8_acceptRanges), ("unicode/utf8.first", laid_unicode_utf8_first)], narrowed := true }
def LetterCountsUptoSaid : Prop := letterCountsUptoRow.holds Tryz.pinned (OpenSpec.upto letterCountsSpec)

/-- 'mahlsticklaw01.LetterListed', WHERE WHAT IT READS IS OF BULK AT MOST 1048576: true; the input reads as it did. -/
def letterListedUptoRow : OpenClaim := { program := "ytjdgdinalodjfaagreatdoor", sum := "6872c3d036c3ae7d919a3777c2e3a0291eefb73cf23c2336135cc2f6dc7b9838", func := "mahlstick/mahlsticklaw01.LetterListed", spec := "letterListed", inPlace := ["internal/bytealg.CountString", "internal/bytealg.IndexByteString", "internal/bytealg.IndexString", "internal/abi.NoEscape", "internal/bytealg.MakeNoZero"], unfollowed := true, recurses := true, named := ["unicode/utf8.first", "unicode/utf8.acceptRanges", "internal/bytealg.MaxLen", "internal/strconv.uint64pow10", "math/bits.deBruijn32tab", "math/bits.deBruijn64tab"], plainKeys := false, apart := false, laid := [("math/bits.deBruijn32tab", laid_math_bits_deBruijn32tab), ("math/bits.deBruijn64tab", laid_math_bits_deBruijn64tab), ("internal/strconv.uint64pow10", laid_internal_strconv_uint64pow10), ("unicode/utf8.acceptRanges", laid_unicode_utf8_acceptRanges), ("unicode/utf8.first", laid_unicode_utf8_first)], narrowed := true }
def LetterListedUptoSaid : Prop := letterListedUptoRow.holds Tryz.pinned (OpenSpec.upto letterListedSpec)

/-- 'mahlsticklaw01.LetterDrops', WHERE WHAT IT READS IS OF BULK AT MOST 1048576: true; the input reads as it did. -/
def letterDropsUptoRow : OpenClaim := { program := "ytjdgdinalodjfaagreatdoor", sum := "6872c3d036c3ae7d919a3777c2e3a0291eefb73cf23c2336135cc2f6dc7b9838", func := "mahlstick/mahlsticklaw01.LetterDrops", spec := "letterDrops", inPlace := ["internal/bytealg.CountString", "internal/bytealg.IndexByteString", "internal/bytealg.IndexString", "internal/abi.NoEscape", "internal/bytealg.MakeNoZero"], unfollowed := true, recurses := true, named := ["unicode/utf8.first", "unicode/utf8.acceptRanges", "internal/bytealg.MaxLen", "internal/strconv.uint64pow10", "math/bits.deBruijn32tab", "math/bits.deBruijn64tab"], plainKeys := false, apart := false, laid := [("math/bits.deBruijn32tab", laid_math_bits_deBruijn32tab), ("math/bits.deBruijn64tab", laid_math_bits_deBruijn64tab), ("internal/strconv.uint64pow10", laid_internal_strconv_uint64pow10), ("unicode/utf8.acceptRanges", laid_unicode_utf8_acceptRanges), ("unicode/utf8.first", laid_unicode_utf8_first)], narrowed := true }
def LetterDropsUptoSaid : Prop := letterDropsUptoRow.holds Tryz.pinned (OpenSpec.upto letterDropsSpec)

/-- 'mahlsticklaw01.LetterLess', WHERE WHAT IT READS IS OF BULK AT MOST 1048576: true; the input reads as it did. -/
def letterLessUptoRow : OpenClaim := { program := "ytjdgdinalodjfaagreatdoor", sum := "6872c3d036c3ae7d919a3777c2e3a0291eefb73cf23c2336135cc2f6dc7b9838", func := "mahlstick/mahlsticklaw01.LetterLess", spec := "letterLess", inPlace := ["internal/bytealg.CountString", "internal/bytealg.IndexByteString", "internal/bytealg.IndexString", "internal/abi.NoEscape", "internal/bytealg.MakeNoZero"], unfollowed := true, recurses := true, named := ["unicode/utf8.first", "unicode/utf8.acceptRanges", "internal/bytealg.MaxLen", "internal/strconv.uint64pow10", "math/bits.deBruijn32tab", "math/bits.deBruijn64tab"], plainKeys := false, apart := false, laid := [("math/bits.deBruijn32tab", laid_math_bits_deBruijn32tab), ("math/bits.deBruijn64tab", laid_math_bits_deBruijn64tab), ("internal/strconv.uint64pow10", laid_internal_strconv_uint64pow10), ("unicode/utf8.acceptRanges", laid_unicode_utf8_acceptRanges), ("unicode/utf8.first", laid_unicode_utf8_first)], narrowed := true }
def LetterLessUptoSaid : Prop := letterLessUptoRow.holds Tryz.pinned (OpenSpec.upto letterLessSpec)

/-- 'mahlsticklaw01.LetterOvers', WHERE WHAT IT READS IS OF BULK AT MOST 1048576: true; the input reads as it did. -/
def letterOversUptoRow : OpenClaim := { program := "ytjdgdinalodjfaagreatdoor", sum := "6872c3d036c3ae7d919a3777c2e3a0291eefb73cf23c2336135cc2f6dc7b9838", func := "mahlstick/mahlsticklaw01.LetterOvers", spec := "letterOvers", inPlace := ["internal/bytealg.CountString", "internal/bytealg.IndexByteString", "internal/bytealg.IndexString", "internal/abi.NoEscape", "internal/bytealg.MakeNoZero"], unfollowed := true, recurses := true, named := ["unicode/utf8.first", "unicode/utf8.acceptRanges", "internal/bytealg.MaxLen", "internal/strconv.uint64pow10", "math/bits.deBruijn32tab", "math/bits.deBruijn64tab"], plainKeys := false, apart := false, laid := [("math/bits.deBruijn32tab", laid_math_bits_deBruijn32tab), ("math/bits.deBruijn64tab", laid_math_bits_deBruijn64tab), ("internal/strconv.uint64pow10", laid_internal_strconv_uint64pow10), ("unicode/utf8.acceptRanges", laid_unicode_utf8_acceptRanges), ("unicode/utf8.first", laid_unicode_utf8_first)], narrowed := true }
def LetterOversUptoSaid : Prop := letterOversUptoRow.holds Tryz.pinned (OpenSpec.upto letterOversSpec)

/-- 'mahlsticklaw01.LetterCutOff', WHERE WHAT IT READS IS OF BULK AT MOST 1048576: true; the input reads as it did. -/
def letterCutOffUptoRow : OpenClaim := { program := "ytjdgdinalodjfaagreatdoor", sum := "6872c3d036c3ae7d919a3777c2e3a0291eefb73cf23c2336135cc2f6dc7b9838", func := "mahlstick/mahlsticklaw01.LetterCutOff", spec := "letterCutOff", inPlace := ["internal/bytealg.CountString", "internal/bytealg.IndexByteString", "internal/bytealg.IndexString", "internal/abi.NoEscape", "internal/bytealg.MakeNoZero"], unfollowed := true, recurses := true, named := ["unicode/utf8.first", "unicode/utf8.acceptRanges", "internal/bytealg.MaxLen", "internal/strconv.uint64pow10", "math/bits.deBruijn32tab", "math/bits.deBruijn64tab"], plainKeys := false, apart := false, laid := [("math/bits.deBruijn32tab", laid_math_bits_deBruijn32tab), ("math/bits.deBruijn64tab", laid_math_bits_deBruijn64tab), ("internal/strconv.uint64pow10", laid_internal_strconv_uint64pow10), ("unicode/utf8.acceptRanges", laid_unicode_utf8_acceptRanges), ("unicode/utf8.first", laid_unicode_utf8_first)], narrowed := true }
def LetterCutOffUptoSaid : Prop := letterCutOffUptoRow.holds Tryz.pinned (OpenSpec.upto letterCutOffSpec)

/-- 'mahlsticklaw01.LetterFronts', WHERE WHAT IT READS IS OF BULK AT MOST 1048576: true; the input reads as it did. -/
def letterFrontsUptoRow : OpenClaim := { program := "ytjdgdinalodjfaagreatdoor", sum := "6872c3d036c3ae7d919a3777c2e3a0291eefb73cf23c2336135cc2f6dc7b9838", func := "mahlstick/mahlsticklaw01.LetterFronts", spec := "letterFronts", inPlace := ["internal/bytealg.CountString", "internal/bytealg.IndexByteString", "internal/bytealg.IndexString", "internal/abi.NoEscape", "internal/bytealg.MakeNoZero"], unfollowed := true, recurses := true, named := ["unicode/utf8.first", "unicode/utf8.acceptRanges", "internal/bytealg.MaxLen", "internal/strconv.uint64pow10", "math/bits.deBruijn32tab", "math/bits.deBruijn64tab"], plainKeys := false, apart := false, laid := [("math/bits.deBruijn32tab", laid_math_bits_deBruijn32tab), ("math/bits.deBruijn64tab", laid_math_bits_deBruijn64tab), ("internal/strconv.uint64pow10", laid_internal_strconv_uint64pow10), ("unicode/utf8.acceptRanges", laid_unicode_utf8_acceptRanges), ("unicode/utf8.first", laid_unicode_utf8_first)], narrowed := true }
def LetterFrontsUptoSaid : Prop := letterFrontsUptoRow.holds Tryz.pinned (OpenSpec.upto letterFrontsSpec)

/-- 'mahlsticklaw01.LetterAlikes', WHERE WHAT IT READS IS OF BULK AT MOST 1048576: true; the input reads as it did. -/
def letterAlikesUptoRow : OpenClaim := { program := "ytjdgdinalodjfaagreatdoor", sum := "6872c3d036c3ae7d919a3777c2e3a0291eefb73cf23c2336135cc2f6dc7b9838", func := "mahlstick/mahlsticklaw01.LetterAlikes", spec := "letterAlikes", inPlace := ["internal/bytealg.CountString", "internal/bytealg.IndexByteString", "internal/bytealg.IndexString", "internal/abi.NoEscape", "internal/bytealg.MakeNoZero"], unfollowed := true, recurses := true, named := ["unicode/utf8.first", "unicode/utf8.acceptRanges", "internal/bytealg.MaxLen", "internal/strconv.uint64pow10", "math/bits.deBruijn32tab", "math/bits.deBruijn64tab"], plainKeys := false, apart := false, laid := [("math/bits.deBruijn32tab", laid_math_bits_deBruijn32tab), ("math/bits.deBruijn64tab", laid_math_bits_deBruijn64tab), ("internal/strconv.uint64pow10", laid_internal_strconv_uint64pow10), ("unicode/utf8.acceptRanges", laid_unicode_utf8_acceptRanges), ("unicode/utf8.first", laid_unicode_utf8_first)], narrowed := true }
def LetterAlikesUptoSaid : Prop := letterAlikesUptoRow.holds Tryz.pinned (OpenSpec.upto letterAlikesSpec)

/-- 'mahlsticklaw01.LetterFell', WHERE WHAT IT READS IS OF BULK AT MOST 1048576: true; the input reads as it did. -/
def letterFellUptoRow : OpenClaim := { program := "ytjdgdinalodjfaagreatdoor", sum := "6872c3d036c3ae7d919a3777c2e3a0291eefb73cf23c2336135cc2f6dc7b9838", func := "mahlstick/mahlsticklaw01.LetterFell", spec := "letterFell", inPlace := ["internal/bytealg.CountString", "internal/bytealg.IndexByteString", "internal/bytealg.IndexString", "internal/abi.NoEscape", "internal/bytealg.MakeNoZero"], unfollowed := true, recurses := true, named := ["unicode/utf8.first", "unicode/utf8.acceptRanges", "internal/bytealg.MaxLen", "internal/strconv.uint64pow10", "math/bits.deBruijn32tab", "math/bits.deBruijn64tab"], plainKeys := false, apart := false, laid := [("math/bits.deBruijn32tab", laid_math_bits_deBruijn32tab), ("math/bits.deBruijn64tab", laid_math_bits_deBruijn64tab), ("internal/strconv.uint64pow10", laid_internal_strconv_uint64pow10), ("unicode/utf8.acceptRanges", laid_unicode_utf8_acceptRanges), ("unicode/utf8.first", laid_unicode_utf8_first)], narrowed := true }
def LetterFellUptoSaid : Prop := letterFellUptoRow.holds Tryz.pinned (OpenSpec.upto letterFellSpec)

/-- 'mahlsticklaw01.LetterMore', WHERE WHAT IT READS IS OF BULK AT MOST 1048576: true; the input reads as it did. -/
def letterMoreUptoRow : OpenClaim := { program := "ytjdgdinalodjfaagreatdoor", sum := "6872c3d036c3ae7d919a3777c2e3a0291eefb73cf23c2336135cc2f6dc7b9838", func := "mahlstick/mahlsticklaw01.LetterMore", spec := "letterMore", inPlace := ["internal/bytealg.CountString", "internal/bytealg.IndexByteString", "internal/bytealg.IndexString", "internal/abi.NoEscape", "internal/bytealg.MakeNoZero"], unfollowed := true, recurses := true, named := ["unicode/utf8.first", "unicode/utf8.acceptRanges", "internal/bytealg.MaxLen", "internal/strconv.uint64pow10", "math/bits.deBruijn32tab", "math/bits.deBruijn64tab"], plainKeys := false, apart := false, laid := [("math/bits.deBruijn32tab", laid_math_bits_deBruijn32tab), ("math/bits.deBruijn64tab", laid_math_bits_deBruijn64tab), ("internal/strconv.uint64pow10", laid_internal_strconv_uint64pow10), ("unicode/utf8.acceptRanges", laid_unicode_utf8_acceptRanges), ("unicode/utf8.first", laid_unicode_utf8_first)], narrowed := true }
def LetterMoreUptoSaid : Prop := letterMoreUptoRow.holds Tryz.pinned (OpenSpec.upto letterMoreSpec)

/-- 'mahlsticklaw01.LetterWidths', WHERE WHAT IT READS IS OF BULK AT MOST 1048576: true; the input reads as it did. -/
def letterWidthsUptoRow : OpenClaim := { program := "ytjdgdinalodjfaagreatdoor", sum := "6872c3d036c3ae7d919a3777c2e3a0291eefb73cf23c2336135cc2f6dc7b9838", func := "mahlstick/mahlsticklaw01.LetterWidths", spec := "letterWidths", inPlace := ["internal/bytealg.CountString", "internal/bytealg.IndexByteString", "internal/bytealg.IndexString", "internal/abi.NoEscape", "internal/bytealg.MakeNoZero"], unfollowed := true, recurses := true, named := ["unicode/utf8.first", "unicode/utf8.acceptRanges", "internal/bytealg.MaxLen", "internal/strconv.uint64pow10", "math/bits.deBruijn32tab", "math/bits.deBruijn64tab"], plainKeys := false, apart := false, laid := [("math/bits.deBruijn32tab", laid_math_bits_deBruijn32tab), ("math/bits.deBruijn64tab", laid_math_bits_deBruijn64tab), ("internal/strconv.uint64pow10", laid_internal_strconv_uint64pow10), ("unicode/utf8.acceptRanges", laid_unicode_utf8_acceptRanges), ("unicode/utf8.first", laid_unicode_utf8_first)], narrowed := true }
def LetterWidthsUptoSaid : Prop := letterWidthsUptoRow.holds Tryz.pinned (OpenSpec.upto letterWidthsSpec)

/-- 'mahlsticklaw01.LetterPrints', WHERE WHAT IT READS IS OF BULK AT MOST 1048576: true; the input reads as it did. -/
def letterPrintsUptoRow : OpenClaim := { program := "ytjdgdinalodjfaagreatdoor", sum := "6872c3d036c3ae7d919a3777c2e3a0291eefb73cf23c2336135cc2f6dc7b9838", func := "mahlstick/mahlsticklaw01.LetterPrints", spec := "letterPrints", inPlace := ["internal/bytealg.CountString", "internal/bytealg.IndexByteString", "internal/bytealg.IndexString", "internal/abi.NoEscape", "internal/bytealg.MakeNoZero"], unfollowed := true, recurses := true, named := ["unicode/utf8.first", "unicode/utf8.acceptRanges", "internal/bytealg.MaxLen", "internal/strconv.uint64pow10", "math/bits.deBruijn32tab", "math/bits.deBruijn64tab"], plainKeys := false, apart := false, laid := [("math/bits.deBruijn32tab", laid_math_bits_deBruijn32tab), ("math/bits.deBruijn64tab", laid_math_bits_deBruijn64tab), ("internal/strconv.uint64pow10", laid_internal_strconv_uint64pow10), ("unicode/utf8.acceptRanges", laid_unicode_utf8_acceptRanges), ("unicode/utf8.first", laid_unicode_utf8_first)], narrowed := true }
def LetterPrintsUptoSaid : Prop := letterPrintsUptoRow.holds Tryz.pinned (OpenSpec.upto letterPrintsSpec)

/-- 'mahlsticklaw01.LetterReads', WHERE WHAT IT READS IS OF BULK AT MOST 1048576: true; the input reads as it did. -/
def letterReadsUptoRow : OpenClaim := { program := "ytjdgdinalodjfaagreatdoor", sum := "6872c3d036c3ae7d919a3777c2e3a0291eefb73cf23c2336135cc2f6dc7b9838", func := "mahlstick/mahlsticklaw01.LetterReads", spec := "letterReads", inPlace := ["internal/bytealg.CountString", "internal/bytealg.IndexByteString", "internal/bytealg.IndexString", "internal/abi.NoEscape", "internal/bytealg.MakeNoZero"], unfollowed := true, recurses := true, named := ["unicode/utf8.first", "unicode/utf8.acceptRanges", "internal/bytealg.MaxLen", "internal/strconv.uint64pow10", "math/bits.deBruijn32tab", "math/bits.deBruijn64tab"], plainKeys := false, apart := false, laid := [("math/bits.deBruijn32tab", laid_math_bits_deBruijn32tab), ("math/bits.deBruijn64tab", laid_math_bits_deBruijn64tab), ("internal/strconv.uint64pow10", laid_internal_strconv_uint64pow10), ("unicode/utf8.acceptRanges", laid_unicode_utf8_acceptRanges), ("unicode/utf8.first", laid_unicode_utf8_first)], narrowed := true }
def LetterReadsUptoSaid : Prop := letterReadsUptoRow.holds Tryz.pinned (OpenSpec.upto letterReadsSpec)

/-- 'mahlsticklaw01.LetterSpoilt', WHERE WHAT IT READS IS OF BULK AT MOST 1048576: true; the input reads as it did. -/
def letterSpoiltUptoRow : OpenClaim := { program := "ytjdgdinalodjfaagreatdoor", sum := "6872c3d036c3ae7d919a3777c2e3a0291eefb73cf23c2336135cc2f6dc7b9838", func := "mahlstick/mahlsticklaw01.LetterSpoilt", spec := "letterSpoilt", inPlace := ["internal/bytealg.CountString", "internal/bytealg.IndexByteString", "internal/bytealg.IndexString", "internal/abi.NoEscape", "internal/bytealg.MakeNoZero"], unfollowed := true, recurses := true, named := ["unicode/utf8.first", "unicode/utf8.acceptRanges", "internal/bytealg.MaxLen", "internal/strconv.uint64pow10", "math/bits.deBruijn32tab", "math/bits.deBruijn64tab"], plainKeys := false, apart := false, laid := [("math/bits.deBruijn32tab", laid_math_bits_deBruijn32tab), ("math/bits.deBruijn64tab", laid_math_bits_deBruijn64tab), ("internal/strconv.uint64pow10", laid_internal_strconv_uint64pow10), ("unicode/utf8.acceptRanges", laid_unicode_utf8_acceptRanges), ("unicode/utf8.first", laid_unicode_utf8_first)], narrowed := true }
def LetterSpoiltUptoSaid : Prop := letterSpoiltUptoRow.holds Tryz.pinned (OpenSpec.upto letterSpoiltSpec)

end Rows
end Go.Proofs.YtjdgdinalodjfaaGreatDoor
