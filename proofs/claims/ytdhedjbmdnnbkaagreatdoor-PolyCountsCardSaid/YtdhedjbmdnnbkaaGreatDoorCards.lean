/-
  DERIVED. GIVEN WITH THE SEED: THE CARDS: each row of YtdhedjbmdnnbkaaGreatDoorRows.lean that lists a variable, with what it lists TIED to the program's text (the seventh form; the later family's looks); each row that meets fmt, with fmt's text TOLD by the authors' own Lean function (tested against real Go, not proved from fmt's source: count such statements apart). THE CARD IS WHAT COUNTS. Prove the row's statement (the work); the ties are given (YtdhedjbmdnnbkaaGreatDoorTie.lean); close each card by the builder's one call (the guide's Derived/Test/ToyasCard.lean, 'card_holds'). Laid BY PROGRAM, IN A SANDBOX (cutbox-door.mjs). By AI agents, Wed Nov 11 2026. No macro, syntax, notation, axiom, sorry.
-/
import Derived.Test.YtdhedjbmdnnbkaaGreatDoorRows
import GoSem.ClaimSeven
namespace Go.Proofs.YtdhedjbmdnnbkaaGreatDoor
namespace Rows

/-- THE TIED CARD OF 'ordinatelaw02.PolyResultants'. -/
def polyResultantsCard : Claim7 := { stood := { row := polyResultantsRow, standIns := [], harness := (true, "3282ea10664338544b9e7d29bc655aa318bb5383d19a7a3f41182a047c2a096f"), looks := false }, kinds := [], alts := [], laidByText := true, laidKinds := [.data, .data, .data], laidTests := true, laidLooks := .later }
def PolyResultantsCardSaid : Prop := Claim7.holds Tryz.pinned (.plain (OpenSpec.ofChange polyResultantsSpec)) polyResultantsCard

/-- THE TIED CARD OF 'ordinatelaw02.PolyDivides'. -/
def polyDividesCard : Claim7 := { stood := { row := polyDividesRow, standIns := [], harness := (true, "3282ea10664338544b9e7d29bc655aa318bb5383d19a7a3f41182a047c2a096f"), looks := false }, kinds := [], alts := [], laidByText := true, laidKinds := [.data, .data, .data], laidTests := true, laidLooks := .later }
def PolyDividesCardSaid : Prop := Claim7.holds Tryz.pinned (.plain (OpenSpec.ofChange polyDividesSpec)) polyDividesCard

/-- THE TIED CARD OF 'ordinatelaw02.PolySpans'. -/
def polySpansCard : Claim7 := { stood := { row := polySpansRow, standIns := [], harness := (true, "3282ea10664338544b9e7d29bc655aa318bb5383d19a7a3f41182a047c2a096f"), looks := false }, kinds := [], alts := [], laidByText := true, laidKinds := [.data, .data, .data], laidTests := true, laidLooks := .later }
def PolySpansCardSaid : Prop := Claim7.holds Tryz.pinned (.plain (OpenSpec.ofChange polySpansSpec)) polySpansCard

/-- THE TIED CARD OF 'ordinatelaw02.PolyAdds'. -/
def polyAddsCard : Claim7 := { stood := { row := polyAddsRow, standIns := [], harness := (true, "3282ea10664338544b9e7d29bc655aa318bb5383d19a7a3f41182a047c2a096f"), looks := false }, kinds := [], alts := [], laidByText := true, laidKinds := [.data, .data, .data], laidTests := true, laidLooks := .later }
def PolyAddsCardSaid : Prop := Claim7.holds Tryz.pinned (.plain (OpenSpec.ofChange polyAddsSpec)) polyAddsCard

/-- THE TIED CARD OF 'ordinatelaw02.PolyRanges'. -/
def polyRangesCard : Claim7 := { stood := { row := polyRangesRow, standIns := [], harness := (true, "3282ea10664338544b9e7d29bc655aa318bb5383d19a7a3f41182a047c2a096f"), looks := false }, kinds := [], alts := [], laidByText := true, laidKinds := [.data, .data, .data], laidTests := true, laidLooks := .later }
def PolyRangesCardSaid : Prop := Claim7.holds Tryz.pinned (.plain (OpenSpec.ofChange polyRangesSpec)) polyRangesCard

/-- THE TIED CARD OF 'ordinatelaw02.PolyLists'. -/
def polyListsCard : Claim7 := { stood := { row := polyListsRow, standIns := [], harness := (true, "3282ea10664338544b9e7d29bc655aa318bb5383d19a7a3f41182a047c2a096f"), looks := false }, kinds := [], alts := [], laidByText := true, laidKinds := [.data, .data, .data], laidTests := true, laidLooks := .later }
def PolyListsCardSaid : Prop := Claim7.holds Tryz.pinned (.plain (OpenSpec.ofChange polyListsSpec)) polyListsCard

/-- THE TIED CARD OF 'ordinatelaw02.PolyCounts'. -/
def polyCountsCard : Claim7 := { stood := { row := polyCountsRow, standIns := [], harness := (true, "3282ea10664338544b9e7d29bc655aa318bb5383d19a7a3f41182a047c2a096f"), looks := false }, kinds := [], alts := [], laidByText := true, laidKinds := [.data, .data, .data], laidTests := true, laidLooks := .later }
def PolyCountsCardSaid : Prop := Claim7.holds Tryz.pinned (.plain (OpenSpec.ofChange polyCountsSpec)) polyCountsCard

/-- THE TIED CARD OF 'ordinatelaw02.PolyRing'. -/
def polyRingCard : Claim7 := { stood := { row := polyRingRow, standIns := [], harness := (true, "3282ea10664338544b9e7d29bc655aa318bb5383d19a7a3f41182a047c2a096f"), looks := false }, kinds := [], alts := [], laidByText := true, laidKinds := [.data, .data, .data], laidTests := true, laidLooks := .later }
def PolyRingCardSaid : Prop := Claim7.holds Tryz.pinned (.plain (OpenSpec.ofChange polyRingSpec)) polyRingCard

/-- THE TIED CARD OF 'ordinatelaw02.PolySigns'. -/
def polySignsCard : Claim7 := { stood := { row := polySignsRow, standIns := [], harness := (true, "3282ea10664338544b9e7d29bc655aa318bb5383d19a7a3f41182a047c2a096f"), looks := false }, kinds := [], alts := [], laidByText := true, laidKinds := [.data, .data, .data], laidTests := true, laidLooks := .later }
def PolySignsCardSaid : Prop := Claim7.holds Tryz.pinned (.plain (OpenSpec.ofChange polySignsSpec)) polySignsCard

/-- THE TIED CARD OF 'ordinatelaw02.PolyInterpolates'. -/
def polyInterpolatesCard : Claim7 := { stood := { row := polyInterpolatesRow, standIns := [], harness := (true, "3282ea10664338544b9e7d29bc655aa318bb5383d19a7a3f41182a047c2a096f"), looks := false }, kinds := [], alts := [], laidByText := true, laidKinds := [.data, .data, .data], laidTests := true, laidLooks := .later }
def PolyInterpolatesCardSaid : Prop := Claim7.holds Tryz.pinned (.plain (OpenSpec.ofChange polyInterpolatesSpec)) polyInterpolatesCard

/-- THE TIED CARD OF 'ordinatelaw02.PolyThrough'. -/
def polyThroughCard : Claim7 := { stood := { row := polyThroughRow, standIns := [], harness := (true, "3282ea10664338544b9e7d29bc655aa318bb5383d19a7a3f41182a047c2a096f"), looks := false }, kinds := [], alts := [], laidByText := true, laidKinds := [.data, .data, .data], laidTests := true, laidLooks := .later }
def PolyThroughCardSaid : Prop := Claim7.holds Tryz.pinned (.plain (OpenSpec.ofChange polyThroughSpec)) polyThroughCard

/-- THE SECOND FORM's CARD OF 'ordinatelaw02.PolyResultants'. -/
def polyResultantsUptoCard : Claim7 := { stood := { row := polyResultantsUptoRow, standIns := [], harness := (true, "3282ea10664338544b9e7d29bc655aa318bb5383d19a7a3f41182a047c2a096f"), looks := false }, kinds := [], alts := [], laidByText := true, laidKinds := [.data, .data, .data], laidTests := true, laidLooks := .later }
def PolyResultantsUptoCardSaid : Prop := Claim7.holds Tryz.pinned (.plain (OpenSpec.upto polyResultantsSpec)) polyResultantsUptoCard

/-- THE SECOND FORM's CARD OF 'ordinatelaw02.PolyDivides'. -/
def polyDividesUptoCard : Claim7 := { stood := { row := polyDividesUptoRow, standIns := [], harness := (true, "3282ea10664338544b9e7d29bc655aa318bb5383d19a7a3f41182a047c2a096f"), looks := false }, kinds := [], alts := [], laidByText := true, laidKinds := [.data, .data, .data], laidTests := true, laidLooks := .later }
def PolyDividesUptoCardSaid : Prop := Claim7.holds Tryz.pinned (.plain (OpenSpec.upto polyDividesSpec)) polyDividesUptoCard

/-- THE SECOND FORM's CARD OF 'ordinatelaw02.PolySpans'. -/
def polySpansUptoCard : Claim7 := { stood := { row := polySpansUptoRow, standIns := [], harness := (true, "3282ea10664338544b9e7d29bc655aa318bb5383d19a7a3f41182a047c2a096f"), looks := false }, kinds := [], alts := [], laidByText := true, laidKinds := [.data, .data, .data], laidTests := true, laidLooks := .later }
def PolySpansUptoCardSaid : Prop := Claim7.holds Tryz.pinned (.plain (OpenSpec.upto polySpansSpec)) polySpansUptoCard

/-- THE SECOND FORM's CARD OF 'ordinatelaw02.PolyAdds'. -/
def polyAddsUptoCard : Claim7 := { stood := { row := polyAddsUptoRow, standIns := [], harness := (true, "3282ea10664338544b9e7d29bc655aa318bb5383d19a7a3f41182a047c2a096f"), looks := false }, kinds := [], alts := [], laidByText := true, laidKinds := [.data, .data, .data], laidTests := true, laidLooks := .later }
def PolyAddsUptoCardSaid : Prop := Claim7.holds Tryz.pinned (.plain (OpenSpec.upto polyAddsSpec)) polyAddsUptoCard

/-- THE SECOND FORM's CARD OF 'ordinatelaw02.PolyRanges'. -/
def polyRangesUptoCard : Claim7 := { stood := { row := polyRangesUptoRow, standIns := [], harness := (true, "3282ea10664338544b9e7d29bc655aa318bb5383d19a7a3f41182a047c2a096f"), looks := false }, kinds := [], alts := [], laidByText := true, laidKinds := [.data, .data, .data], laidTests := true, laidLooks := .later }
def PolyRangesUptoCardSaid : Prop := Claim7.holds Tryz.pinned (.plain (OpenSpec.upto polyRangesSpec)) polyRangesUptoCard

/-- THE SECOND FORM's CARD OF 'ordinatelaw02.PolyLists'. -/
def polyListsUptoCard : Claim7 := { stood := { row := polyListsUptoRow, standIns := [], harness := (true, "3282ea10664338544b9e7d29bc655aa318bb5383d19a7a3f41182a047c2a096f"), looks := false }, kinds := [], alts := [], laidByText := true, laidKinds := [.data, .data, .data], laidTests := true, laidLooks := .later }
def PolyListsUptoCardSaid : Prop := Claim7.holds Tryz.pinned (.plain (OpenSpec.upto polyListsSpec)) polyListsUptoCard

/-- THE SECOND FORM's CARD OF 'ordinatelaw02.PolyCounts'. -/
def polyCountsUptoCard : Claim7 := { stood := { row := polyCountsUptoRow, standIns := [], harness := (true, "3282ea10664338544b9e7d29bc655aa318bb5383d19a7a3f41182a047c2a096f"), looks := false }, kinds := [], alts := [], laidByText := true, laidKinds := [.data, .data, .data], laidTests := true, laidLooks := .later }
def PolyCountsUptoCardSaid : Prop := Claim7.holds Tryz.pinned (.plain (OpenSpec.upto polyCountsSpec)) polyCountsUptoCard

/-- THE SECOND FORM's CARD OF 'ordinatelaw02.PolyRing'. -/
def polyRingUptoCard : Claim7 := { stood := { row := polyRingUptoRow, standIns := [], harness := (true, "3282ea10664338544b9e7d29bc655aa318bb5383d19a7a3f41182a047c2a096f"), looks := false }, kinds := [], alts := [], laidByText := true, laidKinds := [.data, .data, .data], laidTests := true, laidLooks := .later }
def PolyRingUptoCardSaid : Prop := Claim7.holds Tryz.pinned (.plain (OpenSpec.upto polyRingSpec)) polyRingUptoCard

/-- THE SECOND FORM's CARD OF 'ordinatelaw02.PolySigns'. -/
def polySignsUptoCard : Claim7 := { stood := { row := polySignsUptoRow, standIns := [], harness := (true, "3282ea10664338544b9e7d29bc655aa318bb5383d19a7a3f41182a047c2a096f"), looks := false }, kinds := [], alts := [], laidByText := true, laidKinds := [.data, .data, .data], laidTests := true, laidLooks := .later }
def PolySignsUptoCardSaid : Prop := Claim7.holds Tryz.pinned (.plain (OpenSpec.upto polySignsSpec)) polySignsUptoCard

/-- THE SECOND FORM's CARD OF 'ordinatelaw02.PolyInterpolates'. -/
def polyInterpolatesUptoCard : Claim7 := { stood := { row := polyInterpolatesUptoRow, standIns := [], harness := (true, "3282ea10664338544b9e7d29bc655aa318bb5383d19a7a3f41182a047c2a096f"), looks := false }, kinds := [], alts := [], laidByText := true, laidKinds := [.data, .data, .data], laidTests := true, laidLooks := .later }
def PolyInterpolatesUptoCardSaid : Prop := Claim7.holds Tryz.pinned (.plain (OpenSpec.upto polyInterpolatesSpec)) polyInterpolatesUptoCard

/-- THE SECOND FORM's CARD OF 'ordinatelaw02.PolyThrough'. -/
def polyThroughUptoCard : Claim7 := { stood := { row := polyThroughUptoRow, standIns := [], harness := (true, "3282ea10664338544b9e7d29bc655aa318bb5383d19a7a3f41182a047c2a096f"), looks := false }, kinds := [], alts := [], laidByText := true, laidKinds := [.data, .data, .data], laidTests := true, laidLooks := .later }
def PolyThroughUptoCardSaid : Prop := Claim7.holds Tryz.pinned (.plain (OpenSpec.upto polyThroughSpec)) polyThroughUptoCard
end Rows
end Go.Proofs.YtdhedjbmdnnbkaaGreatDoor
