/-
  DERIVED. GIVEN WITH THE SEED: THE CARDS: each row of YtkhclghbcicapaaGreatDoorRows.lean that lists a variable, with what it lists TIED to the program's text (the seventh form; the later family's looks); each row that meets fmt, with fmt's text TOLD by the authors' own Lean function (tested against real Go, not proved from fmt's source: count such statements apart). THE CARD IS WHAT COUNTS. Prove the row's statement (the work); the ties are given (YtkhclghbcicapaaGreatDoorTie.lean); close each card by the builder's one call (the guide's Derived/Test/ToyasCard.lean, 'card_holds'). Laid BY PROGRAM, IN A SANDBOX (cutbox-door.mjs). By AI agents, Wed Nov 11 2026. No macro, syntax, notation, axiom, sorry.
-/
import Derived.Test.YtkhclghbcicapaaGreatDoorRows
import GoSem.ClaimSeven
namespace Go.Proofs.YtkhclghbcicapaaGreatDoor
namespace Rows

/-- THE TIED CARD OF 'ordinatelaw11.EquationVolterra'. -/
def equationVolterraCard : Claim7 := { stood := { row := equationVolterraRow, standIns := [], harness := (true, "322b70ded45db0a09bc4225a320e010138d1a3a9730619f33802e56c67b01897"), looks := false }, kinds := [], alts := [], laidByText := true, laidKinds := [.data, .data, .data], laidTests := true, laidLooks := .later }
def EquationVolterraCardSaid : Prop := Claim7.holds Tryz.pinned (.plain (OpenSpec.ofChange equationVolterraSpec)) equationVolterraCard

/-- THE TIED CARD OF 'ordinatelaw11.EquationSatisfied'. -/
def equationSatisfiedCard : Claim7 := { stood := { row := equationSatisfiedRow, standIns := [], harness := (true, "322b70ded45db0a09bc4225a320e010138d1a3a9730619f33802e56c67b01897"), looks := false }, kinds := [], alts := [], laidByText := true, laidKinds := [.data, .data, .data], laidTests := true, laidLooks := .later }
def EquationSatisfiedCardSaid : Prop := Claim7.holds Tryz.pinned (.plain (OpenSpec.ofChange equationSatisfiedSpec)) equationSatisfiedCard

/-- THE SECOND FORM's CARD OF 'ordinatelaw11.EquationVolterra'. -/
def equationVolterraUptoCard : Claim7 := { stood := { row := equationVolterraUptoRow, standIns := [], harness := (true, "322b70ded45db0a09bc4225a320e010138d1a3a9730619f33802e56c67b01897"), looks := false }, kinds := [], alts := [], laidByText := true, laidKinds := [.data, .data, .data], laidTests := true, laidLooks := .later }
def EquationVolterraUptoCardSaid : Prop := Claim7.holds Tryz.pinned (.plain (OpenSpec.upto equationVolterraSpec)) equationVolterraUptoCard

/-- THE SECOND FORM's CARD OF 'ordinatelaw11.EquationSatisfied'. -/
def equationSatisfiedUptoCard : Claim7 := { stood := { row := equationSatisfiedUptoRow, standIns := [], harness := (true, "322b70ded45db0a09bc4225a320e010138d1a3a9730619f33802e56c67b01897"), looks := false }, kinds := [], alts := [], laidByText := true, laidKinds := [.data, .data, .data], laidTests := true, laidLooks := .later }
def EquationSatisfiedUptoCardSaid : Prop := Claim7.holds Tryz.pinned (.plain (OpenSpec.upto equationSatisfiedSpec)) equationSatisfiedUptoCard
end Rows
end Go.Proofs.YtkhclghbcicapaaGreatDoor
