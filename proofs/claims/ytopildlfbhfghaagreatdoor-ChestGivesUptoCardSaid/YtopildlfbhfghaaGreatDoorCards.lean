/-
  DERIVED. GIVEN WITH THE SEED: THE CARDS: each row of YtopildlfbhfghaaGreatDoorRows.lean that lists a variable, with what it lists TIED to the program's text (the seventh form; the later family's looks); each row that meets fmt, with fmt's text TOLD by the authors' own Lean function (tested against real Go, not proved from fmt's source: count such statements apart). THE CARD IS WHAT COUNTS. Prove the row's statement (the work); the ties are given (YtopildlfbhfghaaGreatDoorTie.lean); close each card by the builder's one call (the guide's Derived/Test/ToyasCard.lean, 'card_holds'). Laid BY PROGRAM, IN A SANDBOX (cutbox-door.mjs). By AI agents, Wed Nov 11 2026. No macro, syntax, notation, axiom, sorry.
-/
import Derived.Test.YtopildlfbhfghaaGreatDoorRows
import GoSem.ClaimSeven
namespace Go.Proofs.YtopildlfbhfghaaGreatDoor
namespace Rows

/-- THE TIED CARD OF 'congoutop.TopTail'. -/
def topTailCard : Claim7 := { stood := { row := topTailRow, standIns := [], harness := (true, "17ff304786ee92b109371ea4c70db86ebf56236fb17149d45948d10d04a29eba"), looks := true }, kinds := [], alts := [], laidByText := true, laidKinds := [.data, .data, .data, .data, .sentinel, .sentinel, .pinned], laidTests := true, laidLooks := .later }
def TopTailCardSaid : Prop := Claim7.holds Tryz.pinned (.plain (OpenSpec.ofChange topTailSpec)) topTailCard

/-- THE TIED CARD OF 'congoutop.TopGap'. -/
def topGapCard : Claim7 := { stood := { row := topGapRow, standIns := [], harness := (true, "17ff304786ee92b109371ea4c70db86ebf56236fb17149d45948d10d04a29eba"), looks := true }, kinds := [], alts := [], laidByText := true, laidKinds := [.data, .data, .data, .data, .sentinel, .sentinel, .pinned], laidTests := true, laidLooks := .later }
def TopGapCardSaid : Prop := Claim7.holds Tryz.pinned (.plain (OpenSpec.ofChange topGapSpec)) topGapCard

/-- THE TIED CARD OF 'congoutop.TopHeavy'. -/
def topHeavyCard : Claim7 := { stood := { row := topHeavyRow, standIns := [], harness := (true, "17ff304786ee92b109371ea4c70db86ebf56236fb17149d45948d10d04a29eba"), looks := true }, kinds := [], alts := [], laidByText := true, laidKinds := [.data, .data, .data, .data, .sentinel, .sentinel, .pinned], laidTests := true, laidLooks := .later }
def TopHeavyCardSaid : Prop := Claim7.holds Tryz.pinned (.plain (OpenSpec.ofChange topHeavySpec)) topHeavyCard

/-- THE TIED CARD OF 'congoulaw10.ChestGives'. -/
def chestGivesCard : Claim7 := { stood := { row := chestGivesRow, standIns := [], harness := (true, "17ff304786ee92b109371ea4c70db86ebf56236fb17149d45948d10d04a29eba"), looks := true }, kinds := [], alts := [], laidByText := true, laidKinds := [.data, .data, .data, .data, .sentinel, .sentinel, .pinned], laidTests := true, laidLooks := .later }
def ChestGivesCardSaid : Prop := Claim7.holds Tryz.pinned (.plain (OpenSpec.ofChange chestGivesSpec)) chestGivesCard

/-- THE TIED CARD OF 'congoulaw10.ChestBooks'. -/
def chestBooksCard : Claim7 := { stood := { row := chestBooksRow, standIns := [], harness := (true, "17ff304786ee92b109371ea4c70db86ebf56236fb17149d45948d10d04a29eba"), looks := true }, kinds := [], alts := [], laidByText := true, laidKinds := [.data, .data, .data, .data, .sentinel, .sentinel, .pinned], laidTests := true, laidLooks := .later }
def ChestBooksCardSaid : Prop := Claim7.holds Tryz.pinned (.plain (OpenSpec.ofChange chestBooksSpec)) chestBooksCard

/-- THE TIED CARD OF 'congoulaw10.ChestReads'. -/
def chestReadsCard : Claim7 := { stood := { row := chestReadsRow, standIns := [], harness := (true, "17ff304786ee92b109371ea4c70db86ebf56236fb17149d45948d10d04a29eba"), looks := true }, kinds := [], alts := [], laidByText := true, laidKinds := [.data, .data, .data, .data, .sentinel, .sentinel, .pinned], laidTests := true, laidLooks := .later }
def ChestReadsCardSaid : Prop := Claim7.holds Tryz.pinned (.plain (OpenSpec.ofChange chestReadsSpec)) chestReadsCard

/-- THE TIED CARD OF 'congoulaw10.ChestFull'. -/
def chestFullCard : Claim7 := { stood := { row := chestFullRow, standIns := [], harness := (true, "17ff304786ee92b109371ea4c70db86ebf56236fb17149d45948d10d04a29eba"), looks := true }, kinds := [], alts := [], laidByText := true, laidKinds := [.data, .data, .data, .data, .sentinel, .sentinel, .pinned], laidTests := true, laidLooks := .later }
def ChestFullCardSaid : Prop := Claim7.holds Tryz.pinned (.plain (OpenSpec.ofChange chestFullSpec)) chestFullCard

/-- THE SECOND FORM's CARD OF 'congoutop.TopTail'. -/
def topTailUptoCard : Claim7 := { stood := { row := topTailUptoRow, standIns := [], harness := (true, "17ff304786ee92b109371ea4c70db86ebf56236fb17149d45948d10d04a29eba"), looks := true }, kinds := [], alts := [], laidByText := true, laidKinds := [.data, .data, .data, .data, .sentinel, .sentinel, .pinned], laidTests := true, laidLooks := .later }
def TopTailUptoCardSaid : Prop := Claim7.holds Tryz.pinned (.plain (OpenSpec.upto topTailSpec)) topTailUptoCard

/-- THE SECOND FORM's CARD OF 'congoutop.TopGap'. -/
def topGapUptoCard : Claim7 := { stood := { row := topGapUptoRow, standIns := [], harness := (true, "17ff304786ee92b109371ea4c70db86ebf56236fb17149d45948d10d04a29eba"), looks := true }, kinds := [], alts := [], laidByText := true, laidKinds := [.data, .data, .data, .data, .sentinel, .sentinel, .pinned], laidTests := true, laidLooks := .later }
def TopGapUptoCardSaid : Prop := Claim7.holds Tryz.pinned (.plain (OpenSpec.upto topGapSpec)) topGapUptoCard

/-- THE SECOND FORM's CARD OF 'congoutop.TopHeavy'. -/
def topHeavyUptoCard : Claim7 := { stood := { row := topHeavyUptoRow, standIns := [], harness := (true, "17ff304786ee92b109371ea4c70db86ebf56236fb17149d45948d10d04a29eba"), looks := true }, kinds := [], alts := [], laidByText := true, laidKinds := [.data, .data, .data, .data, .sentinel, .sentinel, .pinned], laidTests := true, laidLooks := .later }
def TopHeavyUptoCardSaid : Prop := Claim7.holds Tryz.pinned (.plain (OpenSpec.upto topHeavySpec)) topHeavyUptoCard

/-- THE SECOND FORM's CARD OF 'congoulaw10.ChestGives'. -/
def chestGivesUptoCard : Claim7 := { stood := { row := chestGivesUptoRow, standIns := [], harness := (true, "17ff304786ee92b109371ea4c70db86ebf56236fb17149d45948d10d04a29eba"), looks := true }, kinds := [], alts := [], laidByText := true, laidKinds := [.data, .data, .data, .data, .sentinel, .sentinel, .pinned], laidTests := true, laidLooks := .later }
def ChestGivesUptoCardSaid : Prop := Claim7.holds Tryz.pinned (.plain (OpenSpec.upto chestGivesSpec)) chestGivesUptoCard

/-- THE SECOND FORM's CARD OF 'congoulaw10.ChestBooks'. -/
def chestBooksUptoCard : Claim7 := { stood := { row := chestBooksUptoRow, standIns := [], harness := (true, "17ff304786ee92b109371ea4c70db86ebf56236fb17149d45948d10d04a29eba"), looks := true }, kinds := [], alts := [], laidByText := true, laidKinds := [.data, .data, .data, .data, .sentinel, .sentinel, .pinned], laidTests := true, laidLooks := .later }
def ChestBooksUptoCardSaid : Prop := Claim7.holds Tryz.pinned (.plain (OpenSpec.upto chestBooksSpec)) chestBooksUptoCard

/-- THE SECOND FORM's CARD OF 'congoulaw10.ChestReads'. -/
def chestReadsUptoCard : Claim7 := { stood := { row := chestReadsUptoRow, standIns := [], harness := (true, "17ff304786ee92b109371ea4c70db86ebf56236fb17149d45948d10d04a29eba"), looks := true }, kinds := [], alts := [], laidByText := true, laidKinds := [.data, .data, .data, .data, .sentinel, .sentinel, .pinned], laidTests := true, laidLooks := .later }
def ChestReadsUptoCardSaid : Prop := Claim7.holds Tryz.pinned (.plain (OpenSpec.upto chestReadsSpec)) chestReadsUptoCard

/-- THE SECOND FORM's CARD OF 'congoulaw10.ChestFull'. -/
def chestFullUptoCard : Claim7 := { stood := { row := chestFullUptoRow, standIns := [], harness := (true, "17ff304786ee92b109371ea4c70db86ebf56236fb17149d45948d10d04a29eba"), looks := true }, kinds := [], alts := [], laidByText := true, laidKinds := [.data, .data, .data, .data, .sentinel, .sentinel, .pinned], laidTests := true, laidLooks := .later }
def ChestFullUptoCardSaid : Prop := Claim7.holds Tryz.pinned (.plain (OpenSpec.upto chestFullSpec)) chestFullUptoCard
end Rows
end Go.Proofs.YtopildlfbhfghaaGreatDoor
