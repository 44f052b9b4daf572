/-
  DERIVED. GIVEN WITH THE SEED: THE CARDS: each row of YtjkddcfoolilbaaGreatDoorRows.lean that lists a variable, with what it lists TIED to the program's text (the seventh form; the later family's looks); each row that meets fmt, with fmt's text TOLD by the authors' own Lean function (tested against real Go, not proved from fmt's source: count such statements apart). THE CARD IS WHAT COUNTS. Prove the row's statement (the work); the ties are given (YtjkddcfoolilbaaGreatDoorTie.lean); close each card by the builder's one call (the guide's Derived/Test/ToyasCard.lean, 'card_holds'). Laid BY PROGRAM, IN A SANDBOX (cutbox-door.mjs). By AI agents, Wed Nov 11 2026. No macro, syntax, notation, axiom, sorry.
-/
import Derived.Test.YtjkddcfoolilbaaGreatDoorRows
import GoSem.ClaimSeven
namespace Go.Proofs.YtjkddcfoolilbaaGreatDoor
namespace Rows

/-- THE TIED CARD OF 'ordinatelaw11.EquationSeries'. -/
def equationSeriesCard : Claim7 := { stood := { row := equationSeriesRow, standIns := [], harness := (true, "a2e722255ea34bf564eb212ae9a05d01d730f7efd93abc3b2089f3194f63ef81"), looks := false }, kinds := [], alts := [], laidByText := true, laidKinds := [.data, .data, .data], laidTests := true, laidLooks := .later }
def EquationSeriesCardSaid : Prop := Claim7.holds Tryz.pinned (.plain (OpenSpec.ofChange equationSeriesSpec)) equationSeriesCard

/-- THE TIED CARD OF 'ordinatelaw11.EquationNodes'. -/
def equationNodesCard : Claim7 := { stood := { row := equationNodesRow, standIns := [], harness := (true, "a2e722255ea34bf564eb212ae9a05d01d730f7efd93abc3b2089f3194f63ef81"), looks := false }, kinds := [], alts := [], laidByText := true, laidKinds := [.data, .data, .data], laidTests := true, laidLooks := .later }
def EquationNodesCardSaid : Prop := Claim7.holds Tryz.pinned (.plain (OpenSpec.ofChange equationNodesSpec)) equationNodesCard

/-- THE TIED CARD OF 'ordinatelaw11.EquationSatisfied'. -/
def equationSatisfiedCard : Claim7 := { stood := { row := equationSatisfiedRow, standIns := [], harness := (true, "a2e722255ea34bf564eb212ae9a05d01d730f7efd93abc3b2089f3194f63ef81"), looks := false }, kinds := [], alts := [], laidByText := true, laidKinds := [.data, .data, .data], laidTests := true, laidLooks := .later }
def EquationSatisfiedCardSaid : Prop := Claim7.holds Tryz.pinned (.plain (OpenSpec.ofChange equationSatisfiedSpec)) equationSatisfiedCard

/-- THE SECOND FORM's CARD OF 'ordinatelaw11.EquationSeries'. -/
def equationSeriesUptoCard : Claim7 := { stood := { row := equationSeriesUptoRow, standIns := [], harness := (true, "a2e722255ea34bf564eb212ae9a05d01d730f7efd93abc3b2089f3194f63ef81"), looks := false }, kinds := [], alts := [], laidByText := true, laidKinds := [.data, .data, .data], laidTests := true, laidLooks := .later }
def EquationSeriesUptoCardSaid : Prop := Claim7.holds Tryz.pinned (.plain (OpenSpec.upto equationSeriesSpec)) equationSeriesUptoCard

/-- THE SECOND FORM's CARD OF 'ordinatelaw11.EquationNodes'. -/
def equationNodesUptoCard : Claim7 := { stood := { row := equationNodesUptoRow, standIns := [], harness := (true, "a2e722255ea34bf564eb212ae9a05d01d730f7efd93abc3b2089f3194f63ef81"), looks := false }, kinds := [], alts := [], laidByText := true, laidKinds := [.data, .data, .data], laidTests := true, laidLooks := .later }
def EquationNodesUptoCardSaid : Prop := Claim7.holds Tryz.pinned (.plain (OpenSpec.upto equationNodesSpec)) equationNodesUptoCard

/-- THE SECOND FORM's CARD OF 'ordinatelaw11.EquationSatisfied'. -/
def equationSatisfiedUptoCard : Claim7 := { stood := { row := equationSatisfiedUptoRow, standIns := [], harness := (true, "a2e722255ea34bf564eb212ae9a05d01d730f7efd93abc3b2089f3194f63ef81"), looks := false }, kinds := [], alts := [], laidByText := true, laidKinds := [.data, .data, .data], laidTests := true, laidLooks := .later }
def EquationSatisfiedUptoCardSaid : Prop := Claim7.holds Tryz.pinned (.plain (OpenSpec.upto equationSatisfiedSpec)) equationSatisfiedUptoCard
end Rows
end Go.Proofs.YtjkddcfoolilbaaGreatDoor
