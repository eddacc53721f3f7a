/-
  DERIVED. GIVEN WITH THE SEED: THE CARDS: each row of YtficeemoekikdaaDoorRows.lean that lists a variable, with what it lists TIED to the program's text (the seventh form; the later family's looks); each row that meets fmt, with fmt's text TOLD by the authors' own Lean function (tested against real Go, not proved from fmt's source: count such statements apart). THE CARD IS WHAT COUNTS. Prove the row's statement (the work); the ties are given (YtficeemoekikdaaDoorTie.lean); close each card by the builder's one call (the guide's Derived/Test/ToyasCard.lean, 'card_holds'). Laid BY PROGRAM, IN A SANDBOX (cutbox-door.mjs). By AI agents, Wed Nov 11 2026. No macro, syntax, notation, axiom, sorry.
-/
import Derived.Test.YtficeemoekikdaaDoorRows
import GoSem.ClaimSeven
namespace Go.Proofs.YtficeemoekikdaaDoor
namespace Rows

/-- THE TIED CARD OF 'congoulaw05.DealsRules'. -/
def dealsRulesCard : Claim7 := { stood := { row := dealsRulesRow, standIns := [], harness := (true, "b6ccd10a70bdf8169872029bf123db0668ec1d613edbc162610428b9e1ced81d"), looks := false }, kinds := [], alts := [], laidByText := true, laidKinds := [.zero], laidTests := true, laidLooks := .later }
def DealsRulesCardSaid : Prop := Claim7.holds Tryd.pinned (.plain (OpenSpec.ofChange dealsRulesSpec)) dealsRulesCard

/-- THE SECOND FORM's CARD OF 'congoulaw05.DealsRules'. -/
def dealsRulesUptoCard : Claim7 := { stood := { row := dealsRulesUptoRow, standIns := [], harness := (true, "b6ccd10a70bdf8169872029bf123db0668ec1d613edbc162610428b9e1ced81d"), looks := false }, kinds := [], alts := [], laidByText := true, laidKinds := [.zero], laidTests := true, laidLooks := .later }
def DealsRulesUptoCardSaid : Prop := Claim7.holds Tryd.pinned (.plain (OpenSpec.upto dealsRulesSpec)) dealsRulesUptoCard
end Rows
end Go.Proofs.YtficeemoekikdaaDoor
