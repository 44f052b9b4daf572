/-
  DERIVED. GIVEN WITH THE SEED: THE CARDS: each row of YtjjllafelolfoaaGreatDoorRows.lean that lists a variable, with what it lists TIED to the program's text (the seventh form; the later family's looks); each row that meets fmt, with fmt's text TOLD by the authors' own Lean function (tested against real Go, not proved from fmt's source: count such statements apart). THE CARD IS WHAT COUNTS. Prove the row's statement (the work); the ties are given (YtjjllafelolfoaaGreatDoorTie.lean); close each card by the builder's one call (the guide's Derived/Test/ToyasCard.lean, 'card_holds'). Laid BY PROGRAM, IN A SANDBOX (cutbox-door.mjs). By AI agents, Wed Nov 11 2026. No macro, syntax, notation, axiom, sorry.
-/
import Derived.Test.YtjjllafelolfoaaGreatDoorRows
import GoSem.ClaimSeven
namespace Go.Proofs.YtjjllafelolfoaaGreatDoor
namespace Rows

/-- THE TIED CARD OF 'ordinatetop.TopVolterra'. -/
def topVolterraCard : Claim7 := { stood := { row := topVolterraRow, standIns := [], harness := (true, "75090e6c7c39e3844a1285015c24d362bf2f939361017007ff8708d7da8651e3"), looks := false }, kinds := [], alts := [], laidByText := true, laidKinds := [.data, .data, .data], laidTests := true, laidLooks := .later }
def TopVolterraCardSaid : Prop := Claim7.holds Tryz.pinned (.plain (OpenSpec.ofChange topVolterraSpec)) topVolterraCard

/-- THE TIED CARD OF 'ordinatelaw11.EquationSeries'. -/
def equationSeriesCard : Claim7 := { stood := { row := equationSeriesRow, standIns := [], harness := (true, "75090e6c7c39e3844a1285015c24d362bf2f939361017007ff8708d7da8651e3"), looks := false }, kinds := [], alts := [], laidByText := true, laidKinds := [.data, .data, .data], laidTests := true, laidLooks := .later }
def EquationSeriesCardSaid : Prop := Claim7.holds Tryz.pinned (.plain (OpenSpec.ofChange equationSeriesSpec)) equationSeriesCard

/-- THE TIED CARD OF 'ordinatelaw11.EquationWritten'. -/
def equationWrittenCard : Claim7 := { stood := { row := equationWrittenRow, standIns := [], harness := (true, "75090e6c7c39e3844a1285015c24d362bf2f939361017007ff8708d7da8651e3"), looks := false }, kinds := [], alts := [], laidByText := true, laidKinds := [.data, .data, .data], laidTests := true, laidLooks := .later }
def EquationWrittenCardSaid : Prop := Claim7.holds Tryz.pinned (.plain (OpenSpec.ofChange equationWrittenSpec)) equationWrittenCard

/-- THE TIED CARD OF 'ordinatelaw11.EquationPerturbed'. -/
def equationPerturbedCard : Claim7 := { stood := { row := equationPerturbedRow, standIns := [], harness := (true, "75090e6c7c39e3844a1285015c24d362bf2f939361017007ff8708d7da8651e3"), looks := false }, kinds := [], alts := [], laidByText := true, laidKinds := [.data, .data, .data], laidTests := true, laidLooks := .later }
def EquationPerturbedCardSaid : Prop := Claim7.holds Tryz.pinned (.plain (OpenSpec.ofChange equationPerturbedSpec)) equationPerturbedCard

/-- THE TIED CARD OF 'ordinatelaw11.EquationNodes'. -/
def equationNodesCard : Claim7 := { stood := { row := equationNodesRow, standIns := [], harness := (true, "75090e6c7c39e3844a1285015c24d362bf2f939361017007ff8708d7da8651e3"), looks := false }, kinds := [], alts := [], laidByText := true, laidKinds := [.data, .data, .data], laidTests := true, laidLooks := .later }
def EquationNodesCardSaid : Prop := Claim7.holds Tryz.pinned (.plain (OpenSpec.ofChange equationNodesSpec)) equationNodesCard

/-- THE TIED CARD OF 'ordinatelaw11.EquationSolves'. -/
def equationSolvesCard : Claim7 := { stood := { row := equationSolvesRow, standIns := [], harness := (true, "75090e6c7c39e3844a1285015c24d362bf2f939361017007ff8708d7da8651e3"), looks := false }, kinds := [], alts := [], laidByText := true, laidKinds := [.data, .data, .data], laidTests := true, laidLooks := .later }
def EquationSolvesCardSaid : Prop := Claim7.holds Tryz.pinned (.plain (OpenSpec.ofChange equationSolvesSpec)) equationSolvesCard

/-- THE TIED CARD OF 'ordinatelaw11.EquationSatisfied'. -/
def equationSatisfiedCard : Claim7 := { stood := { row := equationSatisfiedRow, standIns := [], harness := (true, "75090e6c7c39e3844a1285015c24d362bf2f939361017007ff8708d7da8651e3"), looks := false }, kinds := [], alts := [], laidByText := true, laidKinds := [.data, .data, .data], laidTests := true, laidLooks := .later }
def EquationSatisfiedCardSaid : Prop := Claim7.holds Tryz.pinned (.plain (OpenSpec.ofChange equationSatisfiedSpec)) equationSatisfiedCard

/-- THE TIED CARD OF 'ordinatelaw11.EquationVolterra'. -/
def equationVolterraCard : Claim7 := { stood := { row := equationVolterraRow, standIns := [], harness := (true, "75090e6c7c39e3844a1285015c24d362bf2f939361017007ff8708d7da8651e3"), looks := false }, kinds := [], alts := [], laidByText := true, laidKinds := [.data, .data, .data], laidTests := true, laidLooks := .later }
def EquationVolterraCardSaid : Prop := Claim7.holds Tryz.pinned (.plain (OpenSpec.ofChange equationVolterraSpec)) equationVolterraCard

/-- THE TIED CARD OF 'ordinatelaw11.EquationKernels'. -/
def equationKernelsCard : Claim7 := { stood := { row := equationKernelsRow, standIns := [], harness := (true, "75090e6c7c39e3844a1285015c24d362bf2f939361017007ff8708d7da8651e3"), looks := false }, kinds := [], alts := [], laidByText := true, laidKinds := [.data, .data, .data], laidTests := true, laidLooks := .later }
def EquationKernelsCardSaid : Prop := Claim7.holds Tryz.pinned (.plain (OpenSpec.ofChange equationKernelsSpec)) equationKernelsCard

/-- THE TIED CARD OF 'ordinatelaw11.EquationAlternative'. -/
def equationAlternativeCard : Claim7 := { stood := { row := equationAlternativeRow, standIns := [], harness := (true, "75090e6c7c39e3844a1285015c24d362bf2f939361017007ff8708d7da8651e3"), looks := false }, kinds := [], alts := [], laidByText := true, laidKinds := [.data, .data, .data], laidTests := true, laidLooks := .later }
def EquationAlternativeCardSaid : Prop := Claim7.holds Tryz.pinned (.plain (OpenSpec.ofChange equationAlternativeSpec)) equationAlternativeCard

/-- THE TIED CARD OF 'ordinatelaw11.EquationRules'. -/
def equationRulesCard : Claim7 := { stood := { row := equationRulesRow, standIns := [], harness := (true, "75090e6c7c39e3844a1285015c24d362bf2f939361017007ff8708d7da8651e3"), looks := false }, kinds := [], alts := [], laidByText := true, laidKinds := [.data, .data, .data], laidTests := true, laidLooks := .later }
def EquationRulesCardSaid : Prop := Claim7.holds Tryz.pinned (.plain (OpenSpec.ofChange equationRulesSpec)) equationRulesCard

/-- THE SECOND FORM's CARD OF 'ordinatetop.TopVolterra'. -/
def topVolterraUptoCard : Claim7 := { stood := { row := topVolterraUptoRow, standIns := [], harness := (true, "75090e6c7c39e3844a1285015c24d362bf2f939361017007ff8708d7da8651e3"), looks := false }, kinds := [], alts := [], laidByText := true, laidKinds := [.data, .data, .data], laidTests := true, laidLooks := .later }
def TopVolterraUptoCardSaid : Prop := Claim7.holds Tryz.pinned (.plain (OpenSpec.upto topVolterraSpec)) topVolterraUptoCard

/-- THE SECOND FORM's CARD OF 'ordinatelaw11.EquationSeries'. -/
def equationSeriesUptoCard : Claim7 := { stood := { row := equationSeriesUptoRow, standIns := [], harness := (true, "75090e6c7c39e3844a1285015c24d362bf2f939361017007ff8708d7da8651e3"), looks := false }, kinds := [], alts := [], laidByText := true, laidKinds := [.data, .data, .data], laidTests := true, laidLooks := .later }
def EquationSeriesUptoCardSaid : Prop := Claim7.holds Tryz.pinned (.plain (OpenSpec.upto equationSeriesSpec)) equationSeriesUptoCard

/-- THE SECOND FORM's CARD OF 'ordinatelaw11.EquationWritten'. -/
def equationWrittenUptoCard : Claim7 := { stood := { row := equationWrittenUptoRow, standIns := [], harness := (true, "75090e6c7c39e3844a1285015c24d362bf2f939361017007ff8708d7da8651e3"), looks := false }, kinds := [], alts := [], laidByText := true, laidKinds := [.data, .data, .data], laidTests := true, laidLooks := .later }
def EquationWrittenUptoCardSaid : Prop := Claim7.holds Tryz.pinned (.plain (OpenSpec.upto equationWrittenSpec)) equationWrittenUptoCard

/-- THE SECOND FORM's CARD OF 'ordinatelaw11.EquationPerturbed'. -/
def equationPerturbedUptoCard : Claim7 := { stood := { row := equationPerturbedUptoRow, standIns := [], harness := (true, "75090e6c7c39e3844a1285015c24d362bf2f939361017007ff8708d7da8651e3"), looks := false }, kinds := [], alts := [], laidByText := true, laidKinds := [.data, .data, .data], laidTests := true, laidLooks := .later }
def EquationPerturbedUptoCardSaid : Prop := Claim7.holds Tryz.pinned (.plain (OpenSpec.upto equationPerturbedSpec)) equationPerturbedUptoCard

/-- THE SECOND FORM's CARD OF 'ordinatelaw11.EquationNodes'. -/
def equationNodesUptoCard : Claim7 := { stood := { row := equationNodesUptoRow, standIns := [], harness := (true, "75090e6c7c39e3844a1285015c24d362bf2f939361017007ff8708d7da8651e3"), looks := false }, kinds := [], alts := [], laidByText := true, laidKinds := [.data, .data, .data], laidTests := true, laidLooks := .later }
def EquationNodesUptoCardSaid : Prop := Claim7.holds Tryz.pinned (.plain (OpenSpec.upto equationNodesSpec)) equationNodesUptoCard

/-- THE SECOND FORM's CARD OF 'ordinatelaw11.EquationSolves'. -/
def equationSolvesUptoCard : Claim7 := { stood := { row := equationSolvesUptoRow, standIns := [], harness := (true, "75090e6c7c39e3844a1285015c24d362bf2f939361017007ff8708d7da8651e3"), looks := false }, kinds := [], alts := [], laidByText := true, laidKinds := [.data, .data, .data], laidTests := true, laidLooks := .later }
def EquationSolvesUptoCardSaid : Prop := Claim7.holds Tryz.pinned (.plain (OpenSpec.upto equationSolvesSpec)) equationSolvesUptoCard

/-- THE SECOND FORM's CARD OF 'ordinatelaw11.EquationSatisfied'. -/
def equationSatisfiedUptoCard : Claim7 := { stood := { row := equationSatisfiedUptoRow, standIns := [], harness := (true, "75090e6c7c39e3844a1285015c24d362bf2f939361017007ff8708d7da8651e3"), looks := false }, kinds := [], alts := [], laidByText := true, laidKinds := [.data, .data, .data], laidTests := true, laidLooks := .later }
def EquationSatisfiedUptoCardSaid : Prop := Claim7.holds Tryz.pinned (.plain (OpenSpec.upto equationSatisfiedSpec)) equationSatisfiedUptoCard

/-- THE SECOND FORM's CARD OF 'ordinatelaw11.EquationVolterra'. -/
def equationVolterraUptoCard : Claim7 := { stood := { row := equationVolterraUptoRow, standIns := [], harness := (true, "75090e6c7c39e3844a1285015c24d362bf2f939361017007ff8708d7da8651e3"), looks := false }, kinds := [], alts := [], laidByText := true, laidKinds := [.data, .data, .data], laidTests := true, laidLooks := .later }
def EquationVolterraUptoCardSaid : Prop := Claim7.holds Tryz.pinned (.plain (OpenSpec.upto equationVolterraSpec)) equationVolterraUptoCard

/-- THE SECOND FORM's CARD OF 'ordinatelaw11.EquationKernels'. -/
def equationKernelsUptoCard : Claim7 := { stood := { row := equationKernelsUptoRow, standIns := [], harness := (true, "75090e6c7c39e3844a1285015c24d362bf2f939361017007ff8708d7da8651e3"), looks := false }, kinds := [], alts := [], laidByText := true, laidKinds := [.data, .data, .data], laidTests := true, laidLooks := .later }
def EquationKernelsUptoCardSaid : Prop := Claim7.holds Tryz.pinned (.plain (OpenSpec.upto equationKernelsSpec)) equationKernelsUptoCard

/-- THE SECOND FORM's CARD OF 'ordinatelaw11.EquationAlternative'. -/
def equationAlternativeUptoCard : Claim7 := { stood := { row := equationAlternativeUptoRow, standIns := [], harness := (true, "75090e6c7c39e3844a1285015c24d362bf2f939361017007ff8708d7da8651e3"), looks := false }, kinds := [], alts := [], laidByText := true, laidKinds := [.data, .data, .data], laidTests := true, laidLooks := .later }
def EquationAlternativeUptoCardSaid : Prop := Claim7.holds Tryz.pinned (.plain (OpenSpec.upto equationAlternativeSpec)) equationAlternativeUptoCard

/-- THE SECOND FORM's CARD OF 'ordinatelaw11.EquationRules'. -/
def equationRulesUptoCard : Claim7 := { stood := { row := equationRulesUptoRow, standIns := [], harness := (true, "75090e6c7c39e3844a1285015c24d362bf2f939361017007ff8708d7da8651e3"), looks := false }, kinds := [], alts := [], laidByText := true, laidKinds := [.data, .data, .data], laidTests := true, laidLooks := .later }
def EquationRulesUptoCardSaid : Prop := Claim7.holds Tryz.pinned (.plain (OpenSpec.upto equationRulesSpec)) equationRulesUptoCard
end Rows
end Go.Proofs.YtjjllafelolfoaaGreatDoor
