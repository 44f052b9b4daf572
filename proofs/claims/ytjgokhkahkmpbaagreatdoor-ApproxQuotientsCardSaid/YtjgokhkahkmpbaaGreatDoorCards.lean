/-
  DERIVED. GIVEN WITH THE SEED: THE CARDS: each row of YtjgokhkahkmpbaaGreatDoorRows.lean that lists a variable, with what it lists TIED to the program's text (the seventh form; the later family's looks); each row that meets fmt, with fmt's text TOLD by the authors' own Lean function (tested against real Go, not proved from fmt's source: count such statements apart). THE CARD IS WHAT COUNTS. Prove the row's statement (the work); the ties are given (YtjgokhkahkmpbaaGreatDoorTie.lean); close each card by the builder's one call (the guide's Derived/Test/ToyasCard.lean, 'card_holds'). Laid BY PROGRAM, IN A SANDBOX (cutbox-door.mjs). By AI agents, Wed Nov 11 2026. No macro, syntax, notation, axiom, sorry.
-/
import Derived.Test.YtjgokhkahkmpbaaGreatDoorRows
import GoSem.ClaimSeven
namespace Go.Proofs.YtjgokhkahkmpbaaGreatDoor
namespace Rows

/-- THE TIED CARD OF 'ordinatelaw08.ApproxEconomizes'. -/
def approxEconomizesCard : Claim7 := { stood := { row := approxEconomizesRow, standIns := [], harness := (true, "70a96ca732a625b64e2cc30d8b2ff4a1e0277bc946d2166fe72dcd27bb40609a"), looks := false }, kinds := [], alts := [], laidByText := true, laidKinds := [.data, .data, .data], laidTests := true, laidLooks := .later }
def ApproxEconomizesCardSaid : Prop := Claim7.holds Tryz.pinned (.plain (OpenSpec.ofChange approxEconomizesSpec)) approxEconomizesCard

/-- THE TIED CARD OF 'ordinatelaw08.ApproxQuotients'. -/
def approxQuotientsCard : Claim7 := { stood := { row := approxQuotientsRow, standIns := [], harness := (true, "70a96ca732a625b64e2cc30d8b2ff4a1e0277bc946d2166fe72dcd27bb40609a"), looks := false }, kinds := [], alts := [], laidByText := true, laidKinds := [.data, .data, .data], laidTests := true, laidLooks := .later }
def ApproxQuotientsCardSaid : Prop := Claim7.holds Tryz.pinned (.plain (OpenSpec.ofChange approxQuotientsSpec)) approxQuotientsCard

/-- THE TIED CARD OF 'ordinatelaw08.ApproxSeries'. -/
def approxSeriesCard : Claim7 := { stood := { row := approxSeriesRow, standIns := [], harness := (true, "70a96ca732a625b64e2cc30d8b2ff4a1e0277bc946d2166fe72dcd27bb40609a"), looks := false }, kinds := [], alts := [], laidByText := true, laidKinds := [.data, .data, .data], laidTests := true, laidLooks := .later }
def ApproxSeriesCardSaid : Prop := Claim7.holds Tryz.pinned (.plain (OpenSpec.ofChange approxSeriesSpec)) approxSeriesCard

/-- THE SECOND FORM's CARD OF 'ordinatelaw08.ApproxEconomizes'. -/
def approxEconomizesUptoCard : Claim7 := { stood := { row := approxEconomizesUptoRow, standIns := [], harness := (true, "70a96ca732a625b64e2cc30d8b2ff4a1e0277bc946d2166fe72dcd27bb40609a"), looks := false }, kinds := [], alts := [], laidByText := true, laidKinds := [.data, .data, .data], laidTests := true, laidLooks := .later }
def ApproxEconomizesUptoCardSaid : Prop := Claim7.holds Tryz.pinned (.plain (OpenSpec.upto approxEconomizesSpec)) approxEconomizesUptoCard

/-- THE SECOND FORM's CARD OF 'ordinatelaw08.ApproxQuotients'. -/
def approxQuotientsUptoCard : Claim7 := { stood := { row := approxQuotientsUptoRow, standIns := [], harness := (true, "70a96ca732a625b64e2cc30d8b2ff4a1e0277bc946d2166fe72dcd27bb40609a"), looks := false }, kinds := [], alts := [], laidByText := true, laidKinds := [.data, .data, .data], laidTests := true, laidLooks := .later }
def ApproxQuotientsUptoCardSaid : Prop := Claim7.holds Tryz.pinned (.plain (OpenSpec.upto approxQuotientsSpec)) approxQuotientsUptoCard

/-- THE SECOND FORM's CARD OF 'ordinatelaw08.ApproxSeries'. -/
def approxSeriesUptoCard : Claim7 := { stood := { row := approxSeriesUptoRow, standIns := [], harness := (true, "70a96ca732a625b64e2cc30d8b2ff4a1e0277bc946d2166fe72dcd27bb40609a"), looks := false }, kinds := [], alts := [], laidByText := true, laidKinds := [.data, .data, .data], laidTests := true, laidLooks := .later }
def ApproxSeriesUptoCardSaid : Prop := Claim7.holds Tryz.pinned (.plain (OpenSpec.upto approxSeriesSpec)) approxSeriesUptoCard
end Rows
end Go.Proofs.YtjgokhkahkmpbaaGreatDoor
