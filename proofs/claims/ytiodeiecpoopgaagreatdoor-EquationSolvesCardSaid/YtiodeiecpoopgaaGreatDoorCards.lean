/-
  DERIVED. GIVEN WITH THE SEED: THE CARDS: each row of YtiodeiecpoopgaaGreatDoorRows.lean that lists a variable, with what it lists TIED to the program's text (the seventh form; the later family's looks); each row that meets fmt, with fmt's text TOLD by the authors' own Lean function (tested against real Go, not proved from fmt's source: count such statements apart). THE CARD IS WHAT COUNTS. Prove the row's statement (the work); the ties are given (YtiodeiecpoopgaaGreatDoorTie.lean); close each card by the builder's one call (the guide's Derived/Test/ToyasCard.lean, 'card_holds'). Laid BY PROGRAM, IN A SANDBOX (cutbox-door.mjs). By AI agents, Wed Nov 11 2026. No macro, syntax, notation, axiom, sorry.
-/
import Derived.Test.YtiodeiecpoopgaaGreatDoorRows
import GoSem.ClaimSeven
namespace Go.Proofs.YtiodeiecpoopgaaGreatDoor
namespace Rows

/-- THE TIED CARD OF 'ordinatelaw11.EquationSolves'. -/
def equationSolvesCard : Claim7 := { stood := { row := equationSolvesRow, standIns := [], harness := (true, "981fe422cfd5df9daaba7b6483a57d3003ba322159e10363fe6e259c167a23cd"), looks := false }, kinds := [], alts := [], laidByText := true, laidKinds := [.data, .data, .data], laidTests := true, laidLooks := .later }
def EquationSolvesCardSaid : Prop := Claim7.holds Tryz.pinned (.plain (OpenSpec.ofChange equationSolvesSpec)) equationSolvesCard

/-- THE SECOND FORM's CARD OF 'ordinatelaw11.EquationSolves'. -/
def equationSolvesUptoCard : Claim7 := { stood := { row := equationSolvesUptoRow, standIns := [], harness := (true, "981fe422cfd5df9daaba7b6483a57d3003ba322159e10363fe6e259c167a23cd"), looks := false }, kinds := [], alts := [], laidByText := true, laidKinds := [.data, .data, .data], laidTests := true, laidLooks := .later }
def EquationSolvesUptoCardSaid : Prop := Claim7.holds Tryz.pinned (.plain (OpenSpec.upto equationSolvesSpec)) equationSolvesUptoCard
end Rows
end Go.Proofs.YtiodeiecpoopgaaGreatDoor
