/-
  DERIVED. GIVEN WITH THE SEED: THE CARDS: each row of YtnigfapfghgmnaaGreatDoorRows.lean that lists a variable, with what it lists TIED to the program's text (the seventh form; the later family's looks); each row that meets fmt, with fmt's text TOLD by the authors' own Lean function (tested against real Go, not proved from fmt's source: count such statements apart). THE CARD IS WHAT COUNTS. Prove the row's statement (the work); the ties are given (YtnigfapfghgmnaaGreatDoorTie.lean); close each card by the builder's one call (the guide's Derived/Test/ToyasCard.lean, 'card_holds'). Laid BY PROGRAM, IN A SANDBOX (cutbox-door.mjs). By AI agents, Wed Nov 11 2026. No macro, syntax, notation, axiom, sorry.
-/
import Derived.Test.YtnigfapfghgmnaaGreatDoorRows
import GoSem.ClaimSeven
namespace Go.Proofs.YtnigfapfghgmnaaGreatDoor
namespace Rows

/-- THE TIED CARD OF 'congoulaw10.ChestFork'. -/
def chestForkCard : Claim7 := { stood := { row := chestForkRow, standIns := [], harness := (true, "4e6e294072537010f0555f72af89b7b7e3e9a5456a6289dcaa8ced6757a9dd3a"), looks := true }, kinds := [], alts := [], laidByText := true, laidKinds := [.data, .data, .data, .data, .sentinel, .sentinel, .pinned], laidTests := true, laidLooks := .later }
def ChestForkCardSaid : Prop := Claim7.holds Tryz.pinned (.plain (OpenSpec.ofChange chestForkSpec)) chestForkCard

/-- THE TIED CARD OF 'congoulaw10.ChestPages'. -/
def chestPagesCard : Claim7 := { stood := { row := chestPagesRow, standIns := [], harness := (true, "4e6e294072537010f0555f72af89b7b7e3e9a5456a6289dcaa8ced6757a9dd3a"), looks := true }, kinds := [], alts := [], laidByText := true, laidKinds := [.data, .data, .data, .data, .sentinel, .sentinel, .pinned], laidTests := true, laidLooks := .later }
def ChestPagesCardSaid : Prop := Claim7.holds Tryz.pinned (.plain (OpenSpec.ofChange chestPagesSpec)) chestPagesCard

/-- THE TIED CARD OF 'congoulaw10.ChestPath'. -/
def chestPathCard : Claim7 := { stood := { row := chestPathRow, standIns := [], harness := (true, "4e6e294072537010f0555f72af89b7b7e3e9a5456a6289dcaa8ced6757a9dd3a"), looks := true }, kinds := [], alts := [], laidByText := true, laidKinds := [.data, .data, .data, .data, .sentinel, .sentinel, .pinned], laidTests := true, laidLooks := .later }
def ChestPathCardSaid : Prop := Claim7.holds Tryz.pinned (.plain (OpenSpec.ofChange chestPathSpec)) chestPathCard

/-- THE TIED CARD OF 'congoulaw10.ChestMoves'. -/
def chestMovesCard : Claim7 := { stood := { row := chestMovesRow, standIns := [], harness := (true, "4e6e294072537010f0555f72af89b7b7e3e9a5456a6289dcaa8ced6757a9dd3a"), looks := true }, kinds := [], alts := [], laidByText := true, laidKinds := [.data, .data, .data, .data, .sentinel, .sentinel, .pinned], laidTests := true, laidLooks := .later }
def ChestMovesCardSaid : Prop := Claim7.holds Tryz.pinned (.plain (OpenSpec.ofChange chestMovesSpec)) chestMovesCard

/-- THE TIED CARD OF 'congoulaw10.ChestBack'. -/
def chestBackCard : Claim7 := { stood := { row := chestBackRow, standIns := [], harness := (true, "4e6e294072537010f0555f72af89b7b7e3e9a5456a6289dcaa8ced6757a9dd3a"), looks := true }, kinds := [], alts := [], laidByText := true, laidKinds := [.data, .data, .data, .data, .sentinel, .sentinel, .pinned], laidTests := true, laidLooks := .later }
def ChestBackCardSaid : Prop := Claim7.holds Tryz.pinned (.plain (OpenSpec.ofChange chestBackSpec)) chestBackCard

/-- THE TIED CARD OF 'congoulaw10.ChestNobody'. -/
def chestNobodyCard : Claim7 := { stood := { row := chestNobodyRow, standIns := [], harness := (true, "4e6e294072537010f0555f72af89b7b7e3e9a5456a6289dcaa8ced6757a9dd3a"), looks := true }, kinds := [], alts := [], laidByText := true, laidKinds := [.data, .data, .data, .data, .sentinel, .sentinel, .pinned], laidTests := true, laidLooks := .later }
def ChestNobodyCardSaid : Prop := Claim7.holds Tryz.pinned (.plain (OpenSpec.ofChange chestNobodySpec)) chestNobodyCard

/-- THE SECOND FORM's CARD OF 'congoulaw10.ChestFork'. -/
def chestForkUptoCard : Claim7 := { stood := { row := chestForkUptoRow, standIns := [], harness := (true, "4e6e294072537010f0555f72af89b7b7e3e9a5456a6289dcaa8ced6757a9dd3a"), looks := true }, kinds := [], alts := [], laidByText := true, laidKinds := [.data, .data, .data, .data, .sentinel, .sentinel, .pinned], laidTests := true, laidLooks := .later }
def ChestForkUptoCardSaid : Prop := Claim7.holds Tryz.pinned (.plain (OpenSpec.upto chestForkSpec)) chestForkUptoCard

/-- THE SECOND FORM's CARD OF 'congoulaw10.ChestPages'. -/
def chestPagesUptoCard : Claim7 := { stood := { row := chestPagesUptoRow, standIns := [], harness := (true, "4e6e294072537010f0555f72af89b7b7e3e9a5456a6289dcaa8ced6757a9dd3a"), looks := true }, kinds := [], alts := [], laidByText := true, laidKinds := [.data, .data, .data, .data, .sentinel, .sentinel, .pinned], laidTests := true, laidLooks := .later }
def ChestPagesUptoCardSaid : Prop := Claim7.holds Tryz.pinned (.plain (OpenSpec.upto chestPagesSpec)) chestPagesUptoCard

/-- THE SECOND FORM's CARD OF 'congoulaw10.ChestPath'. -/
def chestPathUptoCard : Claim7 := { stood := { row := chestPathUptoRow, standIns := [], harness := (true, "4e6e294072537010f0555f72af89b7b7e3e9a5456a6289dcaa8ced6757a9dd3a"), looks := true }, kinds := [], alts := [], laidByText := true, laidKinds := [.data, .data, .data, .data, .sentinel, .sentinel, .pinned], laidTests := true, laidLooks := .later }
def ChestPathUptoCardSaid : Prop := Claim7.holds Tryz.pinned (.plain (OpenSpec.upto chestPathSpec)) chestPathUptoCard

/-- THE SECOND FORM's CARD OF 'congoulaw10.ChestMoves'. -/
def chestMovesUptoCard : Claim7 := { stood := { row := chestMovesUptoRow, standIns := [], harness := (true, "4e6e294072537010f0555f72af89b7b7e3e9a5456a6289dcaa8ced6757a9dd3a"), looks := true }, kinds := [], alts := [], laidByText := true, laidKinds := [.data, .data, .data, .data, .sentinel, .sentinel, .pinned], laidTests := true, laidLooks := .later }
def ChestMovesUptoCardSaid : Prop := Claim7.holds Tryz.pinned (.plain (OpenSpec.upto chestMovesSpec)) chestMovesUptoCard

/-- THE SECOND FORM's CARD OF 'congoulaw10.ChestBack'. -/
def chestBackUptoCard : Claim7 := { stood := { row := chestBackUptoRow, standIns := [], harness := (true, "4e6e294072537010f0555f72af89b7b7e3e9a5456a6289dcaa8ced6757a9dd3a"), looks := true }, kinds := [], alts := [], laidByText := true, laidKinds := [.data, .data, .data, .data, .sentinel, .sentinel, .pinned], laidTests := true, laidLooks := .later }
def ChestBackUptoCardSaid : Prop := Claim7.holds Tryz.pinned (.plain (OpenSpec.upto chestBackSpec)) chestBackUptoCard

/-- THE SECOND FORM's CARD OF 'congoulaw10.ChestNobody'. -/
def chestNobodyUptoCard : Claim7 := { stood := { row := chestNobodyUptoRow, standIns := [], harness := (true, "4e6e294072537010f0555f72af89b7b7e3e9a5456a6289dcaa8ced6757a9dd3a"), looks := true }, kinds := [], alts := [], laidByText := true, laidKinds := [.data, .data, .data, .data, .sentinel, .sentinel, .pinned], laidTests := true, laidLooks := .later }
def ChestNobodyUptoCardSaid : Prop := Claim7.holds Tryz.pinned (.plain (OpenSpec.upto chestNobodySpec)) chestNobodyUptoCard
end Rows
end Go.Proofs.YtnigfapfghgmnaaGreatDoor
