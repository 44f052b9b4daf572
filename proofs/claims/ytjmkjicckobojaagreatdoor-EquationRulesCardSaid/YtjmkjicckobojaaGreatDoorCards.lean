/-
  DERIVED. GIVEN WITH THE SEED: THE CARDS: each row of YtjmkjicckobojaaGreatDoorRows.lean that lists a variable, with what it lists TIED to the program's text (the seventh form; the later family's looks); each row that meets fmt, with fmt's text TOLD by the authors' own Lean function (tested against real Go, not proved from fmt's source: count such statements apart). THE CARD IS WHAT COUNTS. Prove the row's statement (the work); the ties are given (YtjmkjicckobojaaGreatDoorTie.lean); close each card by the builder's one call (the guide's Derived/Test/ToyasCard.lean, 'card_holds'). Laid BY PROGRAM, IN A SANDBOX (cutbox-door.mjs). By AI agents, Wed Nov 11 2026. No macro, syntax, notation, axiom, sorry.
-/
import Derived.Test.YtjmkjicckobojaaGreatDoorRows
import GoSem.ClaimSeven
namespace Go.Proofs.YtjmkjicckobojaaGreatDoor
namespace Rows

/-- THE TIED CARD OF 'ordinatelaw11.EquationKernels'. -/
def equationKernelsCard : Claim7 := { stood := { row := equationKernelsRow, standIns := [], harness := (true, "4394ef4dddf2e97571f8d3b8fa8a94fba971999ba5e017bb33ce7550229099e6"), looks := false }, kinds := [], alts := [], laidByText := true, laidKinds := [.data, .data, .data], laidTests := true, laidLooks := .later }
def EquationKernelsCardSaid : Prop := Claim7.holds Tryz.pinned (.plain (OpenSpec.ofChange equationKernelsSpec)) equationKernelsCard

/-- THE TIED CARD OF 'ordinatelaw11.EquationRules'. -/
def equationRulesCard : Claim7 := { stood := { row := equationRulesRow, standIns := [], harness := (true, "4394ef4dddf2e97571f8d3b8fa8a94fba971999ba5e017bb33ce7550229099e6"), looks := false }, kinds := [], alts := [], laidByText := true, laidKinds := [.data, .data, .data], laidTests := true, laidLooks := .later }
def EquationRulesCardSaid : Prop := Claim7.holds Tryz.pinned (.plain (OpenSpec.ofChange equationRulesSpec)) equationRulesCard

/-- THE SECOND FORM's CARD OF 'ordinatelaw11.EquationKernels'. -/
def equationKernelsUptoCard : Claim7 := { stood := { row := equationKernelsUptoRow, standIns := [], harness := (true, "4394ef4dddf2e97571f8d3b8fa8a94fba971999ba5e017bb33ce7550229099e6"), looks := false }, kinds := [], alts := [], laidByText := true, laidKinds := [.data, .data, .data], laidTests := true, laidLooks := .later }
def EquationKernelsUptoCardSaid : Prop := Claim7.holds Tryz.pinned (.plain (OpenSpec.upto equationKernelsSpec)) equationKernelsUptoCard

/-- THE SECOND FORM's CARD OF 'ordinatelaw11.EquationRules'. -/
def equationRulesUptoCard : Claim7 := { stood := { row := equationRulesUptoRow, standIns := [], harness := (true, "4394ef4dddf2e97571f8d3b8fa8a94fba971999ba5e017bb33ce7550229099e6"), looks := false }, kinds := [], alts := [], laidByText := true, laidKinds := [.data, .data, .data], laidTests := true, laidLooks := .later }
def EquationRulesUptoCardSaid : Prop := Claim7.holds Tryz.pinned (.plain (OpenSpec.upto equationRulesSpec)) equationRulesUptoCard
end Rows
end Go.Proofs.YtjmkjicckobojaaGreatDoor
