/-
  DERIVED. GIVEN WITH THE SEED: THE CARDS: each row of YtkbjakfniejkcaaGreatDoorRows.lean that lists a variable, with what it lists TIED to the program's text (the seventh form; the later family's looks); each row that meets fmt, with fmt's text TOLD by the authors' own Lean function (tested against real Go, not proved from fmt's source: count such statements apart). THE CARD IS WHAT COUNTS. Prove the row's statement (the work); the ties are given (YtkbjakfniejkcaaGreatDoorTie.lean); close each card by the builder's one call (the guide's Derived/Test/ToyasCard.lean, 'card_holds'). Laid BY PROGRAM, IN A SANDBOX (cutbox-door.mjs). By AI agents, Wed Nov 11 2026. No macro, syntax, notation, axiom, sorry.
-/
import Derived.Test.YtkbjakfniejkcaaGreatDoorRows
import GoSem.ClaimSeven
namespace Go.Proofs.YtkbjakfniejkcaaGreatDoor
namespace Rows

/-- THE TIED CARD OF 'ordinatelaw11.EquationAlternative'. -/
def equationAlternativeCard : Claim7 := { stood := { row := equationAlternativeRow, standIns := [], harness := (true, "ba6e90113d2779f3846d44f92836af6dcf0e789d384cccac6924f1d1d7f5ee89"), looks := false }, kinds := [], alts := [], laidByText := true, laidKinds := [.data, .data, .data], laidTests := true, laidLooks := .later }
def EquationAlternativeCardSaid : Prop := Claim7.holds Tryz.pinned (.plain (OpenSpec.ofChange equationAlternativeSpec)) equationAlternativeCard

/-- THE SECOND FORM's CARD OF 'ordinatelaw11.EquationAlternative'. -/
def equationAlternativeUptoCard : Claim7 := { stood := { row := equationAlternativeUptoRow, standIns := [], harness := (true, "ba6e90113d2779f3846d44f92836af6dcf0e789d384cccac6924f1d1d7f5ee89"), looks := false }, kinds := [], alts := [], laidByText := true, laidKinds := [.data, .data, .data], laidTests := true, laidLooks := .later }
def EquationAlternativeUptoCardSaid : Prop := Claim7.holds Tryz.pinned (.plain (OpenSpec.upto equationAlternativeSpec)) equationAlternativeUptoCard
end Rows
end Go.Proofs.YtkbjakfniejkcaaGreatDoor
