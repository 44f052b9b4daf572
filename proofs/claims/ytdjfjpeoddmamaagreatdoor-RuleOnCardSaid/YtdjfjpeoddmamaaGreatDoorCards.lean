/-
  DERIVED. GIVEN WITH THE SEED: THE CARDS: each row of YtdjfjpeoddmamaaGreatDoorRows.lean that lists a variable, with what it lists TIED to the program's text (the seventh form; the later family's looks); each row that meets fmt, with fmt's text TOLD by the authors' own Lean function (tested against real Go, not proved from fmt's source: count such statements apart). THE CARD IS WHAT COUNTS. Prove the row's statement (the work); the ties are given (YtdjfjpeoddmamaaGreatDoorTie.lean); close each card by the builder's one call (the guide's Derived/Test/ToyasCard.lean, 'card_holds'). Laid BY PROGRAM, IN A SANDBOX (cutbox-door.mjs). By AI agents, Wed Nov 11 2026. No macro, syntax, notation, axiom, sorry.
-/
import Derived.Test.YtdjfjpeoddmamaaGreatDoorRows
import GoSem.ClaimSeven
namespace Go.Proofs.YtdjfjpeoddmamaaGreatDoor
namespace Rows

/-- THE TIED CARD OF 'ordinatelaw05.RuleMoves'. -/
def ruleMovesCard : Claim7 := { stood := { row := ruleMovesRow, standIns := [], harness := (true, "854b0172178e1658f68fdbd1af1c5e470e78f85c99764663bd0791e63856cf6f"), looks := false }, kinds := [], alts := [], laidByText := true, laidKinds := [.data, .data, .data], laidTests := true, laidLooks := .later }
def RuleMovesCardSaid : Prop := Claim7.holds Tryz.pinned (.plain (OpenSpec.ofChange ruleMovesSpec)) ruleMovesCard

/-- THE TIED CARD OF 'ordinatelaw05.RuleWeights'. -/
def ruleWeightsCard : Claim7 := { stood := { row := ruleWeightsRow, standIns := [], harness := (true, "854b0172178e1658f68fdbd1af1c5e470e78f85c99764663bd0791e63856cf6f"), looks := false }, kinds := [], alts := [], laidByText := true, laidKinds := [.data, .data, .data], laidTests := true, laidLooks := .later }
def RuleWeightsCardSaid : Prop := Claim7.holds Tryz.pinned (.plain (OpenSpec.ofChange ruleWeightsSpec)) ruleWeightsCard

/-- THE TIED CARD OF 'ordinatelaw05.RuleNamed'. -/
def ruleNamedCard : Claim7 := { stood := { row := ruleNamedRow, standIns := [], harness := (true, "854b0172178e1658f68fdbd1af1c5e470e78f85c99764663bd0791e63856cf6f"), looks := false }, kinds := [], alts := [], laidByText := true, laidKinds := [.data, .data, .data], laidTests := true, laidLooks := .later }
def RuleNamedCardSaid : Prop := Claim7.holds Tryz.pinned (.plain (OpenSpec.ofChange ruleNamedSpec)) ruleNamedCard

/-- THE TIED CARD OF 'ordinatelaw02.PolyMembers'. -/
def polyMembersCard : Claim7 := { stood := { row := polyMembersRow, standIns := [], harness := (true, "854b0172178e1658f68fdbd1af1c5e470e78f85c99764663bd0791e63856cf6f"), looks := false }, kinds := [], alts := [], laidByText := true, laidKinds := [.data, .data, .data], laidTests := true, laidLooks := .later }
def PolyMembersCardSaid : Prop := Claim7.holds Tryz.pinned (.plain (OpenSpec.ofChange polyMembersSpec)) polyMembersCard

/-- THE TIED CARD OF 'ordinatelaw05.RuleOn'. -/
def ruleOnCard : Claim7 := { stood := { row := ruleOnRow, standIns := [], harness := (true, "854b0172178e1658f68fdbd1af1c5e470e78f85c99764663bd0791e63856cf6f"), looks := false }, kinds := [], alts := [], laidByText := true, laidKinds := [.data, .data, .data], laidTests := true, laidLooks := .later }
def RuleOnCardSaid : Prop := Claim7.holds Tryz.pinned (.plain (OpenSpec.ofChange ruleOnSpec)) ruleOnCard

/-- THE TIED CARD OF 'ordinatelaw05.RuleFewest'. -/
def ruleFewestCard : Claim7 := { stood := { row := ruleFewestRow, standIns := [], harness := (true, "854b0172178e1658f68fdbd1af1c5e470e78f85c99764663bd0791e63856cf6f"), looks := false }, kinds := [], alts := [], laidByText := true, laidKinds := [.data, .data, .data], laidTests := true, laidLooks := .later }
def RuleFewestCardSaid : Prop := Claim7.holds Tryz.pinned (.plain (OpenSpec.ofChange ruleFewestSpec)) ruleFewestCard

/-- THE TIED CARD OF 'ordinatelaw05.RuleOrthogonal'. -/
def ruleOrthogonalCard : Claim7 := { stood := { row := ruleOrthogonalRow, standIns := [], harness := (true, "854b0172178e1658f68fdbd1af1c5e470e78f85c99764663bd0791e63856cf6f"), looks := false }, kinds := [], alts := [], laidByText := true, laidKinds := [.data, .data, .data], laidTests := true, laidLooks := .later }
def RuleOrthogonalCardSaid : Prop := Claim7.holds Tryz.pinned (.plain (OpenSpec.ofChange ruleOrthogonalSpec)) ruleOrthogonalCard

/-- THE SECOND FORM's CARD OF 'ordinatelaw05.RuleMoves'. -/
def ruleMovesUptoCard : Claim7 := { stood := { row := ruleMovesUptoRow, standIns := [], harness := (true, "854b0172178e1658f68fdbd1af1c5e470e78f85c99764663bd0791e63856cf6f"), looks := false }, kinds := [], alts := [], laidByText := true, laidKinds := [.data, .data, .data], laidTests := true, laidLooks := .later }
def RuleMovesUptoCardSaid : Prop := Claim7.holds Tryz.pinned (.plain (OpenSpec.upto ruleMovesSpec)) ruleMovesUptoCard

/-- THE SECOND FORM's CARD OF 'ordinatelaw05.RuleWeights'. -/
def ruleWeightsUptoCard : Claim7 := { stood := { row := ruleWeightsUptoRow, standIns := [], harness := (true, "854b0172178e1658f68fdbd1af1c5e470e78f85c99764663bd0791e63856cf6f"), looks := false }, kinds := [], alts := [], laidByText := true, laidKinds := [.data, .data, .data], laidTests := true, laidLooks := .later }
def RuleWeightsUptoCardSaid : Prop := Claim7.holds Tryz.pinned (.plain (OpenSpec.upto ruleWeightsSpec)) ruleWeightsUptoCard

/-- THE SECOND FORM's CARD OF 'ordinatelaw05.RuleNamed'. -/
def ruleNamedUptoCard : Claim7 := { stood := { row := ruleNamedUptoRow, standIns := [], harness := (true, "854b0172178e1658f68fdbd1af1c5e470e78f85c99764663bd0791e63856cf6f"), looks := false }, kinds := [], alts := [], laidByText := true, laidKinds := [.data, .data, .data], laidTests := true, laidLooks := .later }
def RuleNamedUptoCardSaid : Prop := Claim7.holds Tryz.pinned (.plain (OpenSpec.upto ruleNamedSpec)) ruleNamedUptoCard

/-- THE SECOND FORM's CARD OF 'ordinatelaw02.PolyMembers'. -/
def polyMembersUptoCard : Claim7 := { stood := { row := polyMembersUptoRow, standIns := [], harness := (true, "854b0172178e1658f68fdbd1af1c5e470e78f85c99764663bd0791e63856cf6f"), looks := false }, kinds := [], alts := [], laidByText := true, laidKinds := [.data, .data, .data], laidTests := true, laidLooks := .later }
def PolyMembersUptoCardSaid : Prop := Claim7.holds Tryz.pinned (.plain (OpenSpec.upto polyMembersSpec)) polyMembersUptoCard

/-- THE SECOND FORM's CARD OF 'ordinatelaw05.RuleOn'. -/
def ruleOnUptoCard : Claim7 := { stood := { row := ruleOnUptoRow, standIns := [], harness := (true, "854b0172178e1658f68fdbd1af1c5e470e78f85c99764663bd0791e63856cf6f"), looks := false }, kinds := [], alts := [], laidByText := true, laidKinds := [.data, .data, .data], laidTests := true, laidLooks := .later }
def RuleOnUptoCardSaid : Prop := Claim7.holds Tryz.pinned (.plain (OpenSpec.upto ruleOnSpec)) ruleOnUptoCard

/-- THE SECOND FORM's CARD OF 'ordinatelaw05.RuleFewest'. -/
def ruleFewestUptoCard : Claim7 := { stood := { row := ruleFewestUptoRow, standIns := [], harness := (true, "854b0172178e1658f68fdbd1af1c5e470e78f85c99764663bd0791e63856cf6f"), looks := false }, kinds := [], alts := [], laidByText := true, laidKinds := [.data, .data, .data], laidTests := true, laidLooks := .later }
def RuleFewestUptoCardSaid : Prop := Claim7.holds Tryz.pinned (.plain (OpenSpec.upto ruleFewestSpec)) ruleFewestUptoCard

/-- THE SECOND FORM's CARD OF 'ordinatelaw05.RuleOrthogonal'. -/
def ruleOrthogonalUptoCard : Claim7 := { stood := { row := ruleOrthogonalUptoRow, standIns := [], harness := (true, "854b0172178e1658f68fdbd1af1c5e470e78f85c99764663bd0791e63856cf6f"), looks := false }, kinds := [], alts := [], laidByText := true, laidKinds := [.data, .data, .data], laidTests := true, laidLooks := .later }
def RuleOrthogonalUptoCardSaid : Prop := Claim7.holds Tryz.pinned (.plain (OpenSpec.upto ruleOrthogonalSpec)) ruleOrthogonalUptoCard
end Rows
end Go.Proofs.YtdjfjpeoddmamaaGreatDoor
