/-
  NARROWER THAN 'FOR EVERY INPUT', by the rows' own cells (each row's printed sentence says how): PolyResultants: laid · PolyDivides: laid · PolySpans: laid · PolyAdds: laid · PolyRanges: laid · PolyLists: laid · PolyCounts: laid · PolyRing: laid · PolySigns: laid · PolyInterpolates: laid · PolyThrough: laid.
  DERIVED. THE GIVEN ROWS OF THIS SEAT. 11 by the template 'for every input the law returns true; each argument reads behind the call as it read before'; 0 by the template 'total and deterministic' (their statements: YtdhedjbmdnnbkaaGreatDoorTotals.lean).
  GIVEN WITH THE SEED: the statements are not yours to turn. If you find one false, say at which input.
  Laid BY PROGRAM, IN A SANDBOX (cutbox-rows.mjs): the forced cells as the released guide's own fill.sh prints them over the translation 12b33805acaabb69… (all of the seat's roots in one cut). By AI agents, Wed Nov 11 2026. No macro, syntax, notation, axiom, sorry.
-/
import Derived.Test.YtdhedjbmdnnbkaaGreatDoorChecked
import GoSem.Claim
import GoSem.ClaimJoined
import GoSem.ClaimMapViews
import Derived.JoinedTies
import Derived.KernelRfl
namespace Go.Proofs.YtdhedjbmdnnbkaaGreatDoor
/- THE CELL 'sum', in the pinned program and in every row, IS THE sha256 OF THE DUMP (.gsa) THAT YtdhedjbmdnnbkaaGreatDoorProg.lean LOADS. Nothing in Lean hashes anything: it is a label: what it is worth is what the hold of that sum in a sandbox is worth. -/
noncomputable def Tryz.pinned : Pinned := { name := "ytdhedjbmdnnbkaagreatdoor", sum := "12b33805acaabb69b4481c9986364f944f1c6f2293278769de13d5a5e38672a8", checked := Tryz.checked }
namespace Rows
def none {H : Type} : Left H := { results := [], args := [] }

/- WHAT THE LISTED PACKAGE-LEVEL VARIABLES READ AS WHEN THE CALL BEGINS. Each datum BY PROGRAM (the guide's laid-datum.mjs) off the statement by which the dump's own 'gosem.cut.vars' lays the variable. In a bare row this is a premise. The card (YtdhedjbmdnnbkaaGreatDoorCards.lean) ties it to the program's text. -/
def laid_math_bits_deBruijn32tab {H : Type} : DataW H := .agg [.lit (.int .u8 0), .lit (.int .u8 1), .lit (.int .u8 28), .lit (.int .u8 2), .lit (.int .u8 29), .lit (.int .u8 14), .lit (.int .u8 24), .lit (.int .u8 3), .lit (.int .u8 30), .lit (.int .u8 22), .lit (.int .u8 20), .lit (.int .u8 15), .lit (.int .u8 25), .lit (.int .u8 17), .lit (.int .u8 4), .lit (.int .u8 8), .lit (.int .u8 31), .lit (.int .u8 27), .lit (.int .u8 13), .lit (.int .u8 23), .lit (.int .u8 21), .lit (.int .u8 19), .lit (.int .u8 16), .lit (.int .u8 7), .lit (.int .u8 26), .lit (.int .u8 12), .lit (.int .u8 18), .lit (.int .u8 6), .lit (.int .u8 11), .lit (.int .u8 5), .lit (.int .u8 10), .lit (.int .u8 9)]
def laid_math_bits_deBruijn64tab {H : Type} : DataW H := .agg [.lit (.int .u8 0), .lit (.int .u8 1), .lit (.int .u8 56), .lit (.int .u8 2), .lit (.int .u8 57), .lit (.int .u8 49), .lit (.int .u8 28), .lit (.int .u8 3), .lit (.int .u8 61), .lit (.int .u8 58), .lit (.int .u8 42), .lit (.int .u8 50), .lit (.int .u8 38), .lit (.int .u8 29), .lit (.int .u8 17), .lit (.int .u8 4), .lit (.int .u8 62), .lit (.int .u8 47), .lit (.int .u8 59), .lit (.int .u8 36), .lit (.int .u8 45), .lit (.int .u8 43), .lit (.int .u8 51), .lit (.int .u8 22), .lit (.int .u8 53), .lit (.int .u8 39), .lit (.int .u8 33), .lit (.int .u8 30), .lit (.int .u8 24), .lit (.int .u8 18), .lit (.int .u8 12), .lit (.int .u8 5), .lit (.int .u8 63), .lit (.int .u8 55), .lit (.int .u8 48), .lit (.int .u8 27), .lit (.int .u8 60), .lit (.int .u8 41), .lit (.int .u8 37), .lit (.int .u8 16), .lit (.int .u8 46), .lit (.int .u8 35), .lit (.int .u8 44), .lit (.int .u8 21), .lit (.int .u8 52), .lit (.int .u8 32), .lit (.int .u8 23), .lit (.int .u8 11), .lit (.int .u8 54), .lit (.int .u8 26), .lit (.int .u8 40), .lit (.int .u8 15), .lit (.int .u8 34), .lit (.int .u8 20), .lit (.int .u8 31), .lit (.int .u8 10), .lit (.int .u8 25), .lit (.int .u8 14), .lit (.int .u8 19), .lit (.int .u8 9), .lit (.int .u8 13), .lit (.int .u8 8), .lit (.int .u8 7), .lit (.int .u8 6)]
def laid_internal_strconv_uint64pow10 {H : Type} : DataW H := .agg [.lit (.int .u64 1), .lit (.int .u64 10), .lit (.int .u64 100), .lit (.int .u64 1000), .lit (.int .u64 10000), .lit (.int .u64 100000), .lit (.int .u64 1000000), .lit (.int .u64 10000000), .lit (.int .u64 100000000), .lit (.int .u64 1000000000), .lit (.int .u64 10000000000), .lit (.int .u64 100000000000), .lit (.int .u64 1000000000000), .lit (.int .u64 10000000000000), .lit (.int .u64 100000000000000), .lit (.int .u64 1000000000000000), .lit (.int .u64 10000000000000000), .lit (.int .u64 100000000000000000), .lit (.int .u64 1000000000000000000), .lit (.int .u64 10000000000000000000)]

/-- 'ordinatelaw02.PolyResultants': WHATEVER THE INPUT: true; the input reads as it did. -/
def polyResultantsSpec : ChangeSpec := { name := "polyResultants", fn := fun _ => fun
  | [d1, d2, d3] => { results := [.lit (.bool true)], args := [d1, d2, d3] }
  | _ => none }
def polyResultantsRow : OpenClaim := { program := "ytdhedjbmdnnbkaagreatdoor", sum := "12b33805acaabb69b4481c9986364f944f1c6f2293278769de13d5a5e38672a8", func := "ordinate/ordinatelaw02.PolyResultants", spec := "polyResultants", inPlace := ["internal/abi.NoEscape", "internal/bytealg.MakeNoZero"], unfollowed := true, recurses := true, named := ["internal/strconv.uint64pow10", "math/bits.deBruijn32tab", "math/bits.deBruijn64tab"], apart := false, laid := [("math/bits.deBruijn32tab", laid_math_bits_deBruijn32tab), ("math/bits.deBruijn64tab", laid_math_bits_deBruijn64tab), ("internal/strconv.uint64pow10", laid_internal_strconv_uint64pow10)] }
def PolyResultantsSaid : Prop := polyResultantsRow.holds Tryz.pinned (OpenSpec.ofChange polyResultantsSpec)

/-- ITS FALSE NEIGHBOUR: 'it returns false'. Refute it at one input. -/
def polyResultantsWrong : ChangeSpec := { name := "polyResultants", fn := fun _ => fun
  | [d1, d2, d3] => { results := [.lit (.bool false)], args := [d1, d2, d3] }
  | _ => none }
def PolyResultantsWrongFalsely : Prop := polyResultantsRow.holds Tryz.pinned (OpenSpec.ofChange polyResultantsWrong)

/-- 'ordinatelaw02.PolyDivides': WHATEVER THE INPUT: true; the input reads as it did. -/
def polyDividesSpec : ChangeSpec := { name := "polyDivides", fn := fun _ => fun
  | [d1, d2] => { results := [.lit (.bool true)], args := [d1, d2] }
  | _ => none }
def polyDividesRow : OpenClaim := { program := "ytdhedjbmdnnbkaagreatdoor", sum := "12b33805acaabb69b4481c9986364f944f1c6f2293278769de13d5a5e38672a8", func := "ordinate/ordinatelaw02.PolyDivides", spec := "polyDivides", inPlace := ["internal/abi.NoEscape", "internal/bytealg.MakeNoZero"], unfollowed := true, recurses := true, named := ["internal/strconv.uint64pow10", "math/bits.deBruijn32tab", "math/bits.deBruijn64tab"], apart := false, laid := [("math/bits.deBruijn32tab", laid_math_bits_deBruijn32tab), ("math/bits.deBruijn64tab", laid_math_bits_deBruijn64tab), ("internal/strconv.uint64pow10", laid_internal_strconv_uint64pow10)] }
def PolyDividesSaid : Prop := polyDividesRow.holds Tryz.pinned (OpenSpec.ofChange polyDividesSpec)

/-- ITS FALSE NEIGHBOUR: 'it returns false'. Refute it at one input. -/
def polyDividesWrong : ChangeSpec := { name := "polyDivides", fn := fun _ => fun
  | [d1, d2] => { results := [.lit (.bool false)], args := [d1, d2] }
  | _ => none }
def PolyDividesWrongFalsely : Prop := polyDividesRow.holds Tryz.pinned (OpenSpec.ofChange polyDividesWrong)

/-- 'ordinatelaw02.PolySpans': WHATEVER THE INPUT: true; the input reads as it did. -/
def polySpansSpec : ChangeSpec := { name := "polySpans", fn := fun _ => fun
  | [d1, d2, d3] => { results := [.lit (.bool true)], args := [d1, d2, d3] }
  | _ => none }
def polySpansRow : OpenClaim := { program := "ytdhedjbmdnnbkaagreatdoor", sum := "12b33805acaabb69b4481c9986364f944f1c6f2293278769de13d5a5e38672a8", func := "ordinate/ordinatelaw02.PolySpans", spec := "polySpans", inPlace := ["internal/abi.NoEscape", "internal/bytealg.MakeNoZero"], unfollowed := true, recurses := true, named := ["internal/strconv.uint64pow10", "math/bits.deBruijn32tab", "math/bits.deBruijn64tab"], apart := false, laid := [("math/bits.deBruijn32tab", laid_math_bits_deBruijn32tab), ("math/bits.deBruijn64tab", laid_math_bits_deBruijn64tab), ("internal/strconv.uint64pow10", laid_internal_strconv_uint64pow10)] }
def PolySpansSaid : Prop := polySpansRow.holds Tryz.pinned (OpenSpec.ofChange polySpansSpec)

/-- ITS FALSE NEIGHBOUR: 'it returns false'. Refute it at one input. -/
def polySpansWrong : ChangeSpec := { name := "polySpans", fn := fun _ => fun
  | [d1, d2, d3] => { results := [.lit (.bool false)], args := [d1, d2, d3] }
  | _ => none }
def PolySpansWrongFalsely : Prop := polySpansRow.holds Tryz.pinned (OpenSpec.ofChange polySpansWrong)

/-- 'ordinatelaw02.PolyAdds': WHATEVER THE INPUT: true; the input reads as it did. -/
def polyAddsSpec : ChangeSpec := { name := "polyAdds", fn := fun _ => fun
  | [d1, d2, d3, d4] => { results := [.lit (.bool true)], args := [d1, d2, d3, d4] }
  | _ => none }
def polyAddsRow : OpenClaim := { program := "ytdhedjbmdnnbkaagreatdoor", sum := "12b33805acaabb69b4481c9986364f944f1c6f2293278769de13d5a5e38672a8", func := "ordinate/ordinatelaw02.PolyAdds", spec := "polyAdds", inPlace := ["internal/abi.NoEscape", "internal/bytealg.MakeNoZero"], unfollowed := true, recurses := true, named := ["internal/strconv.uint64pow10", "math/bits.deBruijn32tab", "math/bits.deBruijn64tab"], apart := false, laid := [("math/bits.deBruijn32tab", laid_math_bits_deBruijn32tab), ("math/bits.deBruijn64tab", laid_math_bits_deBruijn64tab), ("internal/strconv.uint64pow10", laid_internal_strconv_uint64pow10)] }
def PolyAddsSaid : Prop := polyAddsRow.holds Tryz.pinned (OpenSpec.ofChange polyAddsSpec)

/-- ITS FALSE NEIGHBOUR: 'it returns false'. Refute it at one input. -/
def polyAddsWrong : ChangeSpec := { name := "polyAdds", fn := fun _ => fun
  | [d1, d2, d3, d4] => { results := [.lit (.bool false)], args := [d1, d2, d3, d4] }
  | _ => none }
def PolyAddsWrongFalsely : Prop := polyAddsRow.holds Tryz.pinned (OpenSpec.ofChange polyAddsWrong)

/-- 'ordinatelaw02.PolyRanges': WHATEVER THE INPUT: true; the input reads as it did. -/
def polyRangesSpec : ChangeSpec := { name := "polyRanges", fn := fun _ => fun
  | [d1, d2, d3] => { results := [.lit (.bool true)], args := [d1, d2, d3] }
  | _ => none }
def polyRangesRow : OpenClaim := { program := "ytdhedjbmdnnbkaagreatdoor", sum := "12b33805acaabb69b4481c9986364f944f1c6f2293278769de13d5a5e38672a8", func := "ordinate/ordinatelaw02.PolyRanges", spec := "polyRanges", inPlace := ["internal/abi.NoEscape", "internal/bytealg.MakeNoZero"], unfollowed := true, recurses := true, named := ["internal/strconv.uint64pow10", "math/bits.deBruijn32tab", "math/bits.deBruijn64tab"], apart := false, laid := [("math/bits.deBruijn32tab", laid_math_bits_deBruijn32tab), ("math/bits.deBruijn64tab", laid_math_bits_deBruijn64tab), ("internal/strconv.uint64pow10", laid_internal_strconv_uint64pow10)] }
def PolyRangesSaid : Prop := polyRangesRow.holds Tryz.pinned (OpenSpec.ofChange polyRangesSpec)

/-- ITS FALSE NEIGHBOUR: 'it returns false'. Refute it at one input. -/
def polyRangesWrong : ChangeSpec := { name := "polyRanges", fn := fun _ => fun
  | [d1, d2, d3] => { results := [.lit (.bool false)], args := [d1, d2, d3] }
  | _ => none }
def PolyRangesWrongFalsely : Prop := polyRangesRow.holds Tryz.pinned (OpenSpec.ofChange polyRangesWrong)

/-- 'ordinatelaw02.PolyLists': WHATEVER THE INPUT: true; the input reads as it did. -/
def polyListsSpec : ChangeSpec := { name := "polyLists", fn := fun _ => fun
  | [d1, d2] => { results := [.lit (.bool true)], args := [d1, d2] }
  | _ => none }
def polyListsRow : OpenClaim := { program := "ytdhedjbmdnnbkaagreatdoor", sum := "12b33805acaabb69b4481c9986364f944f1c6f2293278769de13d5a5e38672a8", func := "ordinate/ordinatelaw02.PolyLists", spec := "polyLists", inPlace := ["internal/abi.NoEscape", "internal/bytealg.MakeNoZero"], unfollowed := true, recurses := true, named := ["internal/strconv.uint64pow10", "math/bits.deBruijn32tab", "math/bits.deBruijn64tab"], apart := false, laid := [("math/bits.deBruijn32tab", laid_math_bits_deBruijn32tab), ("math/bits.deBruijn64tab", laid_math_bits_deBruijn64tab), ("internal/strconv.uint64pow10", laid_internal_strconv_uint64pow10)] }
def PolyListsSaid : Prop := polyListsRow.holds Tryz.pinned (OpenSpec.ofChange polyListsSpec)

/-- ITS FALSE NEIGHBOUR: 'it returns false'. Refute it at one input. -/
def polyListsWrong : ChangeSpec := { name := "polyLists", fn := fun _ => fun
  | [d1, d2] => { results := [.lit (.bool false)], args := [d1, d2] }
  | _ => none }
def PolyListsWrongFalsely : Prop := polyListsRow.holds Tryz.pinned (OpenSpec.ofChange polyListsWrong)

/-- 'ordinatelaw02.PolyCounts': WHATEVER THE INPUT: true; the input reads as it did. -/
def polyCountsSpec : ChangeSpec := { name := "polyCounts", fn := fun _ => fun
  | [d1, d2] => { results := [.lit (.bool true)], args := [d1, d2] }
  | _ => none }
def polyCountsRow : OpenClaim := { program := "ytdhedjbmdnnbkaagreatdoor", sum := "12b33805acaabb69b4481c9986364f944f1c6f2293278769de13d5a5e38672a8", func := "ordinate/ordinatelaw02.PolyCounts", spec := "polyCounts", inPlace := ["internal/abi.NoEscape", "internal/bytealg.MakeNoZero"], unfollowed := true, recurses := true, named := ["internal/strconv.uint64pow10", "math/bits.deBruijn32tab", "math/bits.deBruijn64tab"], apart := false, laid := [("math/bits.deBruijn32tab", laid_math_bits_deBruijn32tab), ("math/bits.deBruijn64tab", laid_math_bits_deBruijn64tab), ("internal/strconv.uint64pow10", laid_internal_strconv_uint64pow10)] }
def PolyCountsSaid : Prop := polyCountsRow.holds Tryz.pinned (OpenSpec.ofChange polyCountsSpec)

/-- ITS FALSE NEIGHBOUR: 'it returns false'. Refute it at one input. -/
def polyCountsWrong : ChangeSpec := { name := "polyCounts", fn := fun _ => fun
  | [d1, d2] => { results := [.lit (.bool false)], args := [d1, d2] }
  | _ => none }
def PolyCountsWrongFalsely : Prop := polyCountsRow.holds Tryz.pinned (OpenSpec.ofChange polyCountsWrong)

/-- 'ordinatelaw02.PolyRing': WHATEVER THE INPUT: true; the input reads as it did. -/
def polyRingSpec : ChangeSpec := { name := "polyRing", fn := fun _ => fun
  | [d1, d2, d3, d4, d5] => { results := [.lit (.bool true)], args := [d1, d2, d3, d4, d5] }
  | _ => none }
def polyRingRow : OpenClaim := { program := "ytdhedjbmdnnbkaagreatdoor", sum := "12b33805acaabb69b4481c9986364f944f1c6f2293278769de13d5a5e38672a8", func := "ordinate/ordinatelaw02.PolyRing", spec := "polyRing", inPlace := ["internal/abi.NoEscape", "internal/bytealg.MakeNoZero"], unfollowed := true, recurses := true, named := ["internal/strconv.uint64pow10", "math/bits.deBruijn32tab", "math/bits.deBruijn64tab"], apart := false, laid := [("math/bits.deBruijn32tab", laid_math_bits_deBruijn32tab), ("math/bits.deBruijn64tab", laid_math_bits_deBruijn64tab), ("internal/strconv.uint64pow10", laid_internal_strconv_uint64pow10)] }
def PolyRingSaid : Prop := polyRingRow.holds Tryz.pinned (OpenSpec.ofChange polyRingSpec)

/-- ITS FALSE NEIGHBOUR: 'it returns false'. Refute it at one input. -/
def polyRingWrong : ChangeSpec := { name := "polyRing", fn := fun _ => fun
  | [d1, d2, d3, d4, d5] => { results := [.lit (.bool false)], args := [d1, d2, d3, d4, d5] }
  | _ => none }
def PolyRingWrongFalsely : Prop := polyRingRow.holds Tryz.pinned (OpenSpec.ofChange polyRingWrong)

/-- 'ordinatelaw02.PolySigns': WHATEVER THE INPUT: true; the input reads as it did. -/
def polySignsSpec : ChangeSpec := { name := "polySigns", fn := fun _ => fun
  | [d1, d2, d3] => { results := [.lit (.bool true)], args := [d1, d2, d3] }
  | _ => none }
def polySignsRow : OpenClaim := { program := "ytdhedjbmdnnbkaagreatdoor", sum := "12b33805acaabb69b4481c9986364f944f1c6f2293278769de13d5a5e38672a8", func := "ordinate/ordinatelaw02.PolySigns", spec := "polySigns", inPlace := ["internal/abi.NoEscape", "internal/bytealg.MakeNoZero"], unfollowed := true, recurses := true, named := ["internal/strconv.uint64pow10", "math/bits.deBruijn32tab", "math/bits.deBruijn64tab"], apart := false, laid := [("math/bits.deBruijn32tab", laid_math_bits_deBruijn32tab), ("math/bits.deBruijn64tab", laid_math_bits_deBruijn64tab), ("internal/strconv.uint64pow10", laid_internal_strconv_uint64pow10)] }
def PolySignsSaid : Prop := polySignsRow.holds Tryz.pinned (OpenSpec.ofChange polySignsSpec)

/-- ITS FALSE NEIGHBOUR: 'it returns false'. Refute it at one input. -/
def polySignsWrong : ChangeSpec := { name := "polySigns", fn := fun _ => fun
  | [d1, d2, d3] => { results := [.lit (.bool false)], args := [d1, d2, d3] }
  | _ => none }
def PolySignsWrongFalsely : Prop := polySignsRow.holds Tryz.pinned (OpenSpec.ofChange polySignsWrong)

/-- 'ordinatelaw02.PolyInterpolates': WHATEVER THE INPUT: true; the input reads as it did. -/
def polyInterpolatesSpec : ChangeSpec := { name := "polyInterpolates", fn := fun _ => fun
  | [d1, d2] => { results := [.lit (.bool true)], args := [d1, d2] }
  | _ => none }
def polyInterpolatesRow : OpenClaim := { program := "ytdhedjbmdnnbkaagreatdoor", sum := "12b33805acaabb69b4481c9986364f944f1c6f2293278769de13d5a5e38672a8", func := "ordinate/ordinatelaw02.PolyInterpolates", spec := "polyInterpolates", inPlace := ["internal/abi.NoEscape", "internal/bytealg.MakeNoZero"], unfollowed := true, recurses := true, named := ["internal/strconv.uint64pow10", "math/bits.deBruijn32tab", "math/bits.deBruijn64tab"], apart := false, laid := [("math/bits.deBruijn32tab", laid_math_bits_deBruijn32tab), ("math/bits.deBruijn64tab", laid_math_bits_deBruijn64tab), ("internal/strconv.uint64pow10", laid_internal_strconv_uint64pow10)] }
def PolyInterpolatesSaid : Prop := polyInterpolatesRow.holds Tryz.pinned (OpenSpec.ofChange polyInterpolatesSpec)

/-- ITS FALSE NEIGHBOUR: 'it returns false'. Refute it at one input. -/
def polyInterpolatesWrong : ChangeSpec := { name := "polyInterpolates", fn := fun _ => fun
  | [d1, d2] => { results := [.lit (.bool false)], args := [d1, d2] }
  | _ => none }
def PolyInterpolatesWrongFalsely : Prop := polyInterpolatesRow.holds Tryz.pinned (OpenSpec.ofChange polyInterpolatesWrong)

/-- 'ordinatelaw02.PolyThrough': WHATEVER THE INPUT: true; the input reads as it did. -/
def polyThroughSpec : ChangeSpec := { name := "polyThrough", fn := fun _ => fun
  | [d1, d2] => { results := [.lit (.bool true)], args := [d1, d2] }
  | _ => none }
def polyThroughRow : OpenClaim := { program := "ytdhedjbmdnnbkaagreatdoor", sum := "12b33805acaabb69b4481c9986364f944f1c6f2293278769de13d5a5e38672a8", func := "ordinate/ordinatelaw02.PolyThrough", spec := "polyThrough", inPlace := ["internal/abi.NoEscape", "internal/bytealg.MakeNoZero"], unfollowed := true, recurses := true, named := ["internal/strconv.uint64pow10", "math/bits.deBruijn32tab", "math/bits.deBruijn64tab"], apart := false, laid := [("math/bits.deBruijn32tab", laid_math_bits_deBruijn32tab), ("math/bits.deBruijn64tab", laid_math_bits_deBruijn64tab), ("internal/strconv.uint64pow10", laid_internal_strconv_uint64pow10)] }
def PolyThroughSaid : Prop := polyThroughRow.holds Tryz.pinned (OpenSpec.ofChange polyThroughSpec)

/-- ITS FALSE NEIGHBOUR: 'it returns false'. Refute it at one input. -/
def polyThroughWrong : ChangeSpec := { name := "polyThrough", fn := fun _ => fun
  | [d1, d2] => { results := [.lit (.bool false)], args := [d1, d2] }
  | _ => none }
def PolyThroughWrongFalsely : Prop := polyThroughRow.holds Tryz.pinned (OpenSpec.ofChange polyThroughWrong)

/- THE SECOND FORM. 'bulk': how many values and letters a reading holds, each counted each time it is reached (what is shared counts as often as it is met; a slice's spare places count too). A statement '..UptoSaid' is the law's where the arguments, and the package variables that the reading takes, are together of bulk at most 1048576: NARROWER than '..Said'. Prove '..Said' where nothing that the law and all that it calls make is longer than what came in: it says more and counts as full. Else prove '..UptoSaid'. A law counts once. -/
mutual
def uptoBulk {H : Type} : DataW H → Nat
  | .lit (.string bytes) => bytes.length + 1
  | .lit _ => 1
  | .nil => 1
  | .ptr d => uptoBulk d + 1
  | .slice elems spare => uptoBulkAll elems + uptoBulkAll spare + 1
  | .agg parts => uptoBulkAll parts + 1
  | .iface _ d => uptoBulk d + 1
  | .map entries => uptoBulkEntries entries + 1
  | .held _ => 1
def uptoBulkAll {H : Type} : List (DataW H) → Nat
  | [] => 0
  | d :: r => uptoBulk d + uptoBulkAll r
def uptoBulkEntries {H : Type} : List (Lit × DataW H) → Nat
  | [] => 0
  | x :: r => uptoBulkEntry x + uptoBulkEntries r
def uptoBulkEntry {H : Type} : Lit × DataW H → Nat
  | (.string bytes, d) => bytes.length + uptoBulk d + 1
  | (_, d) => uptoBulk d + 1
 end
def uptoSmall : (H : Type) → List (DataW H) → Bool := fun _ ds => decide (uptoBulkAll ds ≤ 1048576)
def OpenSpec.upto (s : _root_.Go.ChangeSpec) : _root_.Go.OpenSpec := { _root_.Go.OpenSpec.ofChange s with cond := some uptoSmall }

/-- 'ordinatelaw02.PolyResultants', WHERE WHAT IT READS IS OF BULK AT MOST 1048576: true; the input reads as it did. -/
def polyResultantsUptoRow : OpenClaim := { program := "ytdhedjbmdnnbkaagreatdoor", sum := "12b33805acaabb69b4481c9986364f944f1c6f2293278769de13d5a5e38672a8", func := "ordinate/ordinatelaw02.PolyResultants", spec := "polyResultants", inPlace := ["internal/abi.NoEscape", "internal/bytealg.MakeNoZero"], unfollowed := true, recurses := true, named := ["internal/strconv.uint64pow10", "math/bits.deBruijn32tab", "math/bits.deBruijn64tab"], apart := false, laid := [("math/bits.deBruijn32tab", laid_math_bits_deBruijn32tab), ("math/bits.deBruijn64tab", laid_math_bits_deBruijn64tab), ("internal/strconv.uint64pow10", laid_internal_strconv_uint64pow10)], narrowed := true }
def PolyResultantsUptoSaid : Prop := polyResultantsUptoRow.holds Tryz.pinned (OpenSpec.upto polyResultantsSpec)

/-- 'ordinatelaw02.PolyDivides', WHERE WHAT IT READS IS OF BULK AT MOST 1048576: true; the input reads as it did. -/
def polyDividesUptoRow : OpenClaim := { program := "ytdhedjbmdnnbkaagreatdoor", sum := "12b33805acaabb69b4481c9986364f944f1c6f2293278769de13d5a5e38672a8", func := "ordinate/ordinatelaw02.PolyDivides", spec := "polyDivides", inPlace := ["internal/abi.NoEscape", "internal/bytealg.MakeNoZero"], unfollowed := true, recurses := true, named := ["internal/strconv.uint64pow10", "math/bits.deBruijn32tab", "math/bits.deBruijn64tab"], apart := false, laid := [("math/bits.deBruijn32tab", laid_math_bits_deBruijn32tab), ("math/bits.deBruijn64tab", laid_math_bits_deBruijn64tab), ("internal/strconv.uint64pow10", laid_internal_strconv_uint64pow10)], narrowed := true }
def PolyDividesUptoSaid : Prop := polyDividesUptoRow.holds Tryz.pinned (OpenSpec.upto polyDividesSpec)

/-- 'ordinatelaw02.PolySpans', WHERE WHAT IT READS IS OF BULK AT MOST 1048576: true; the input reads as it did. -/
def polySpansUptoRow : OpenClaim := { program := "ytdhedjbmdnnbkaagreatdoor", sum := "12b33805acaabb69b4481c9986364f944f1c6f2293278769de13d5a5e38672a8", func := "ordinate/ordinatelaw02.PolySpans", spec := "polySpans", inPlace := ["internal/abi.NoEscape", "internal/bytealg.MakeNoZero"], unfollowed := true, recurses := true, named := ["internal/strconv.uint64pow10", "math/bits.deBruijn32tab", "math/bits.deBruijn64tab"], apart := false, laid := [("math/bits.deBruijn32tab", laid_math_bits_deBruijn32tab), ("math/bits.deBruijn64tab", laid_math_bits_deBruijn64tab), ("internal/strconv.uint64pow10", laid_internal_strconv_uint64pow10)], narrowed := true }
def PolySpansUptoSaid : Prop := polySpansUptoRow.holds Tryz.pinned (OpenSpec.upto polySpansSpec)

/-- 'ordinatelaw02.PolyAdds', WHERE WHAT IT READS IS OF BULK AT MOST 1048576: true; the input reads as it did. -/
def polyAddsUptoRow : OpenClaim := { program := "ytdhedjbmdnnbkaagreatdoor", sum := "12b33805acaabb69b4481c9986364f944f1c6f2293278769de13d5a5e38672a8", func := "ordinate/ordinatelaw02.PolyAdds", spec := "polyAdds", inPlace := ["internal/abi.NoEscape", "internal/bytealg.MakeNoZero"], unfollowed := true, recurses := true, named := ["internal/strconv.uint64pow10", "math/bits.deBruijn32tab", "math/bits.deBruijn64tab"], apart := false, laid := [("math/bits.deBruijn32tab", laid_math_bits_deBruijn32tab), ("math/bits.deBruijn64tab", laid_math_bits_deBruijn64tab), ("internal/strconv.uint64pow10", laid_internal_strconv_uint64pow10)], narrowed := true }
def PolyAddsUptoSaid : Prop := polyAddsUptoRow.holds Tryz.pinned (OpenSpec.upto polyAddsSpec)

/-- 'ordinatelaw02.PolyRanges', WHERE WHAT IT READS IS OF BULK AT MOST 1048576: true; the input reads as it did. -/
def polyRangesUptoRow : OpenClaim := { program := "ytdhedjbmdnnbkaagreatdoor", sum := "12b33805acaabb69b4481c9986364f944f1c6f2293278769de13d5a5e38672a8", func := "ordinate/ordinatelaw02.PolyRanges", spec := "polyRanges", inPlace := ["internal/abi.NoEscape", "internal/bytealg.MakeNoZero"], unfollowed := true, recurses := true, named := ["internal/strconv.uint64pow10", "math/bits.deBruijn32tab", "math/bits.deBruijn64tab"], apart := false, laid := [("math/bits.deBruijn32tab", laid_math_bits_deBruijn32tab), ("math/bits.deBruijn64tab", laid_math_bits_deBruijn64tab), ("internal/strconv.uint64pow10", laid_internal_strconv_uint64pow10)], narrowed := true }
def PolyRangesUptoSaid : Prop := polyRangesUptoRow.holds Tryz.pinned (OpenSpec.upto polyRangesSpec)

/-- 'ordinatelaw02.PolyLists', WHERE WHAT IT READS IS OF BULK AT MOST 1048576: true; the input reads as it did. -/
def polyListsUptoRow : OpenClaim := { program := "ytdhedjbmdnnbkaagreatdoor", sum := "12b33805acaabb69b4481c9986364f944f1c6f2293278769de13d5a5e38672a8", func := "ordinate/ordinatelaw02.PolyLists", spec := "polyLists", inPlace := ["internal/abi.NoEscape", "internal/bytealg.MakeNoZero"], unfollowed := true, recurses := true, named := ["internal/strconv.uint64pow10", "math/bits.deBruijn32tab", "math/bits.deBruijn64tab"], apart := false, laid := [("math/bits.deBruijn32tab", laid_math_bits_deBruijn32tab), ("math/bits.deBruijn64tab", laid_math_bits_deBruijn64tab), ("internal/strconv.uint64pow10", laid_internal_strconv_uint64pow10)], narrowed := true }
def PolyListsUptoSaid : Prop := polyListsUptoRow.holds Tryz.pinned (OpenSpec.upto polyListsSpec)

/-- 'ordinatelaw02.PolyCounts', WHERE WHAT IT READS IS OF BULK AT MOST 1048576: true; the input reads as it did. -/
def polyCountsUptoRow : OpenClaim := { program := "ytdhedjbmdnnbkaagreatdoor", sum := "12b33805acaabb69b4481c9986364f944f1c6f2293278769de13d5a5e38672a8", func := "ordinate/ordinatelaw02.PolyCounts", spec := "polyCounts", inPlace := ["internal/abi.NoEscape", "internal/bytealg.MakeNoZero"], unfollowed := true, recurses := true, named := ["internal/strconv.uint64pow10", "math/bits.deBruijn32tab", "math/bits.deBruijn64tab"], apart := false, laid := [("math/bits.deBruijn32tab", laid_math_bits_deBruijn32tab), ("math/bits.deBruijn64tab", laid_math_bits_deBruijn64tab), ("internal/strconv.uint64pow10", laid_internal_strconv_uint64pow10)], narrowed := true }
def PolyCountsUptoSaid : Prop := polyCountsUptoRow.holds Tryz.pinned (OpenSpec.upto polyCountsSpec)

/-- 'ordinatelaw02.PolyRing', WHERE WHAT IT READS IS OF BULK AT MOST 1048576: true; the input reads as it did. -/
def polyRingUptoRow : OpenClaim := { program := "ytdhedjbmdnnbkaagreatdoor", sum := "12b33805acaabb69b4481c9986364f944f1c6f2293278769de13d5a5e38672a8", func := "ordinate/ordinatelaw02.PolyRing", spec := "polyRing", inPlace := ["internal/abi.NoEscape", "internal/bytealg.MakeNoZero"], unfollowed := true, recurses := true, named := ["internal/strconv.uint64pow10", "math/bits.deBruijn32tab", "math/bits.deBruijn64tab"], apart := false, laid := [("math/bits.deBruijn32tab", laid_math_bits_deBruijn32tab), ("math/bits.deBruijn64tab", laid_math_bits_deBruijn64tab), ("internal/strconv.uint64pow10", laid_internal_strconv_uint64pow10)], narrowed := true }
def PolyRingUptoSaid : Prop := polyRingUptoRow.holds Tryz.pinned (OpenSpec.upto polyRingSpec)

/-- 'ordinatelaw02.PolySigns', WHERE WHAT IT READS IS OF BULK AT MOST 1048576: true; the input reads as it did. -/
def polySignsUptoRow : OpenClaim := { program := "ytdhedjbmdnnbkaagreatdoor", sum := "12b33805acaabb69b4481c9986364f944f1c6f2293278769de13d5a5e38672a8", func := "ordinate/ordinatelaw02.PolySigns", spec := "polySigns", inPlace := ["internal/abi.NoEscape", "internal/bytealg.MakeNoZero"], unfollowed := true, recurses := true, named := ["internal/strconv.uint64pow10", "math/bits.deBruijn32tab", "math/bits.deBruijn64tab"], apart := false, laid := [("math/bits.deBruijn32tab", laid_math_bits_deBruijn32tab), ("math/bits.deBruijn64tab", laid_math_bits_deBruijn64tab), ("internal/strconv.uint64pow10", laid_internal_strconv_uint64pow10)], narrowed := true }
def PolySignsUptoSaid : Prop := polySignsUptoRow.holds Tryz.pinned (OpenSpec.upto polySignsSpec)

/-- 'ordinatelaw02.PolyInterpolates', WHERE WHAT IT READS IS OF BULK AT MOST 1048576: true; the input reads as it did. -/
def polyInterpolatesUptoRow : OpenClaim := { program := "ytdhedjbmdnnbkaagreatdoor", sum := "12b33805acaabb69b4481c9986364f944f1c6f2293278769de13d5a5e38672a8", func := "ordinate/ordinatelaw02.PolyInterpolates", spec := "polyInterpolates", inPlace := ["internal/abi.NoEscape", "internal/bytealg.MakeNoZero"], unfollowed := true, recurses := true, named := ["internal/strconv.uint64pow10", "math/bits.deBruijn32tab", "math/bits.deBruijn64tab"], apart := false, laid := [("math/bits.deBruijn32tab", laid_math_bits_deBruijn32tab), ("math/bits.deBruijn64tab", laid_math_bits_deBruijn64tab), ("internal/strconv.uint64pow10", laid_internal_strconv_uint64pow10)], narrowed := true }
def PolyInterpolatesUptoSaid : Prop := polyInterpolatesUptoRow.holds Tryz.pinned (OpenSpec.upto polyInterpolatesSpec)

/-- 'ordinatelaw02.PolyThrough', WHERE WHAT IT READS IS OF BULK AT MOST 1048576: true; the input reads as it did. -/
def polyThroughUptoRow : OpenClaim := { program := "ytdhedjbmdnnbkaagreatdoor", sum := "12b33805acaabb69b4481c9986364f944f1c6f2293278769de13d5a5e38672a8", func := "ordinate/ordinatelaw02.PolyThrough", spec := "polyThrough", inPlace := ["internal/abi.NoEscape", "internal/bytealg.MakeNoZero"], unfollowed := true, recurses := true, named := ["internal/strconv.uint64pow10", "math/bits.deBruijn32tab", "math/bits.deBruijn64tab"], apart := false, laid := [("math/bits.deBruijn32tab", laid_math_bits_deBruijn32tab), ("math/bits.deBruijn64tab", laid_math_bits_deBruijn64tab), ("internal/strconv.uint64pow10", laid_internal_strconv_uint64pow10)], narrowed := true }
def PolyThroughUptoSaid : Prop := polyThroughUptoRow.holds Tryz.pinned (OpenSpec.upto polyThroughSpec)

end Rows
end Go.Proofs.YtdhedjbmdnnbkaaGreatDoor
