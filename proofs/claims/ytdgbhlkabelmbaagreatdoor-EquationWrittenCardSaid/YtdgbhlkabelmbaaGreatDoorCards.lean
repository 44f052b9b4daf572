/-
  DERIVED. GIVEN WITH THE SEED: THE CARDS: each row of YtdgbhlkabelmbaaGreatDoorRows.lean that lists a variable, with what it lists TIED to the program's text (the seventh form; the later family's looks); each row that meets fmt, with fmt's text TOLD by the authors' own Lean function (tested against real Go, not proved from fmt's source: count such statements apart). THE CARD IS WHAT COUNTS. Prove the row's statement (the work); the ties are given (YtdgbhlkabelmbaaGreatDoorTie.lean); close each card by the builder's one call (the guide's Derived/Test/ToyasCard.lean, 'card_holds'). Laid BY PROGRAM, IN A SANDBOX (cutbox-door.mjs). By AI agents, Wed Nov 11 2026. No macro, syntax, notation, axiom, sorry.
-/
import Derived.Test.YtdgbhlkabelmbaaGreatDoorRows
import GoSem.ClaimSeven
namespace Go.Proofs.YtdgbhlkabelmbaaGreatDoor
namespace Rows

/-- THE TIED CARD OF 'ordinatelaw11.EquationWritten'. -/
def equationWrittenCard : Claim7 := { stood := { row := equationWrittenRow, standIns := [], harness := (true, "e9a678be14d88860ccb656ef529de31502fd7915d6f7dcf5afdb39577deff45c"), looks := false }, kinds := [], alts := [], laidByText := true, laidKinds := [.data, .data, .data], laidTests := true, laidLooks := .later }
def EquationWrittenCardSaid : Prop := Claim7.holds Tryz.pinned (.plain (OpenSpec.ofChange equationWrittenSpec)) equationWrittenCard

/-- THE SECOND FORM's CARD OF 'ordinatelaw11.EquationWritten'. -/
def equationWrittenUptoCard : Claim7 := { stood := { row := equationWrittenUptoRow, standIns := [], harness := (true, "e9a678be14d88860ccb656ef529de31502fd7915d6f7dcf5afdb39577deff45c"), looks := false }, kinds := [], alts := [], laidByText := true, laidKinds := [.data, .data, .data], laidTests := true, laidLooks := .later }
def EquationWrittenUptoCardSaid : Prop := Claim7.holds Tryz.pinned (.plain (OpenSpec.upto equationWrittenSpec)) equationWrittenUptoCard
end Rows
end Go.Proofs.YtdgbhlkabelmbaaGreatDoor
