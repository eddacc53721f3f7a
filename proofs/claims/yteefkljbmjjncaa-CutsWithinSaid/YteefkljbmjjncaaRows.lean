/-
  No cell of these rows narrows 'for every input' (looked for: loops, veiled, ifaces, maps, wideKeys, modest, calm, conditions, laid).
  DERIVED. THE GIVEN ROWS OF THIS SEAT. 14 by the template 'for every input the law returns true; each argument reads behind the call as it read before'; 0 by the template 'total and deterministic' (their statements: YteefkljbmjjncaaTotals.lean).
  GIVEN WITH THE SEED: the statements are not yours to turn. If you find one false, say at which input.
  Laid BY PROGRAM, IN A SANDBOX (cutbox-rows.mjs): the forced cells as the released guide's own fill.sh prints them over the translation 6035732ac656888b… (all of the seat's roots in one cut). By AI agents, Wed Nov 11 2026. No macro, syntax, notation, axiom, sorry.
-/
import Derived.Test.YteefkljbmjjncaaChecked
import GoSem.Claim
import GoSem.ClaimJoined
import GoSem.ClaimMapViews
import Derived.JoinedTies
import Derived.KernelRfl
namespace Go.Proofs.Yteefkljbmjjncaa
/- THE CELL 'sum', in the pinned program and in every row, IS THE sha256 OF THE DUMP (.gsa) THAT YteefkljbmjjncaaProg.lean LOADS. Nothing in Lean hashes anything: it is a label: what it is worth is what the hold of that sum in a sandbox is worth. -/
noncomputable def Try.pinned : Pinned := { name := "yteefkljbmjjncaa", sum := "6035732ac656888b145a1f4c69c0041ba57a53b14e91efa0a304ae806bf71c58", checked := Try.checked }
namespace Rows
def none {H : Type} : Left H := { results := [], args := [] }

/-- 'congoulaw02.CutsRounds': WHATEVER THE INPUT: true; the input reads as it did. -/
def cutsRoundsSpec : ChangeSpec := { name := "cutsRounds", fn := fun _ => fun
  | [d1, d2] => { results := [.lit (.bool true)], args := [d1, d2] }
  | _ => none }
def cutsRoundsRow : OpenClaim := { program := "yteefkljbmjjncaa", sum := "6035732ac656888b145a1f4c69c0041ba57a53b14e91efa0a304ae806bf71c58", func := "congou/congoulaw02.CutsRounds", spec := "cutsRounds", unfollowed := true, recurses := true, apart := false }
def CutsRoundsSaid : Prop := cutsRoundsRow.holds Try.pinned (OpenSpec.ofChange cutsRoundsSpec)

/-- ITS FALSE NEIGHBOUR: 'it returns false'. Refute it at one input. -/
def cutsRoundsWrong : ChangeSpec := { name := "cutsRounds", fn := fun _ => fun
  | [d1, d2] => { results := [.lit (.bool false)], args := [d1, d2] }
  | _ => none }
def CutsRoundsWrongFalsely : Prop := cutsRoundsRow.holds Try.pinned (OpenSpec.ofChange cutsRoundsWrong)

/-- 'congoulaw02.CutsHulls': WHATEVER THE INPUT: true; the input reads as it did. -/
def cutsHullsSpec : ChangeSpec := { name := "cutsHulls", fn := fun _ => fun
  | [d] => { results := [.lit (.bool true)], args := [d] }
  | _ => none }
def cutsHullsRow : OpenClaim := { program := "yteefkljbmjjncaa", sum := "6035732ac656888b145a1f4c69c0041ba57a53b14e91efa0a304ae806bf71c58", func := "congou/congoulaw02.CutsHulls", spec := "cutsHulls", unfollowed := true, recurses := true, apart := false }
def CutsHullsSaid : Prop := cutsHullsRow.holds Try.pinned (OpenSpec.ofChange cutsHullsSpec)

/-- ITS FALSE NEIGHBOUR: 'it returns false'. Refute it at one input. -/
def cutsHullsWrong : ChangeSpec := { name := "cutsHulls", fn := fun _ => fun
  | [d] => { results := [.lit (.bool false)], args := [d] }
  | _ => none }
def CutsHullsWrongFalsely : Prop := cutsHullsRow.holds Try.pinned (OpenSpec.ofChange cutsHullsWrong)

/-- 'congoulaw02.CutsCuts': WHATEVER THE INPUT: true; the input reads as it did. -/
def cutsCutsSpec : ChangeSpec := { name := "cutsCuts", fn := fun _ => fun
  | [d1, d2, d3] => { results := [.lit (.bool true)], args := [d1, d2, d3] }
  | _ => none }
def cutsCutsRow : OpenClaim := { program := "yteefkljbmjjncaa", sum := "6035732ac656888b145a1f4c69c0041ba57a53b14e91efa0a304ae806bf71c58", func := "congou/congoulaw02.CutsCuts", spec := "cutsCuts", unfollowed := true, recurses := true, apart := false }
def CutsCutsSaid : Prop := cutsCutsRow.holds Try.pinned (OpenSpec.ofChange cutsCutsSpec)

/-- ITS FALSE NEIGHBOUR: 'it returns false'. Refute it at one input. -/
def cutsCutsWrong : ChangeSpec := { name := "cutsCuts", fn := fun _ => fun
  | [d1, d2, d3] => { results := [.lit (.bool false)], args := [d1, d2, d3] }
  | _ => none }
def CutsCutsWrongFalsely : Prop := cutsCutsRow.holds Try.pinned (OpenSpec.ofChange cutsCutsWrong)

/-- 'congoulaw02.CutsMoves': WHATEVER THE INPUT: true; the input reads as it did. -/
def cutsMovesSpec : ChangeSpec := { name := "cutsMoves", fn := fun _ => fun
  | [d1, d2, d3, d4] => { results := [.lit (.bool true)], args := [d1, d2, d3, d4] }
  | _ => none }
def cutsMovesRow : OpenClaim := { program := "yteefkljbmjjncaa", sum := "6035732ac656888b145a1f4c69c0041ba57a53b14e91efa0a304ae806bf71c58", func := "congou/congoulaw02.CutsMoves", spec := "cutsMoves", unfollowed := true, recurses := true, apart := false }
def CutsMovesSaid : Prop := cutsMovesRow.holds Try.pinned (OpenSpec.ofChange cutsMovesSpec)

/-- ITS FALSE NEIGHBOUR: 'it returns false'. Refute it at one input. -/
def cutsMovesWrong : ChangeSpec := { name := "cutsMoves", fn := fun _ => fun
  | [d1, d2, d3, d4] => { results := [.lit (.bool false)], args := [d1, d2, d3, d4] }
  | _ => none }
def CutsMovesWrongFalsely : Prop := cutsMovesRow.holds Try.pinned (OpenSpec.ofChange cutsMovesWrong)

/-- 'congoulaw02.CutsInside': WHATEVER THE INPUT: true; the input reads as it did. -/
def cutsInsideSpec : ChangeSpec := { name := "cutsInside", fn := fun _ => fun
  | [d1, d2, d3, d4] => { results := [.lit (.bool true)], args := [d1, d2, d3, d4] }
  | _ => none }
def cutsInsideRow : OpenClaim := { program := "yteefkljbmjjncaa", sum := "6035732ac656888b145a1f4c69c0041ba57a53b14e91efa0a304ae806bf71c58", func := "congou/congoulaw02.CutsInside", spec := "cutsInside", unfollowed := true, recurses := true, apart := false }
def CutsInsideSaid : Prop := cutsInsideRow.holds Try.pinned (OpenSpec.ofChange cutsInsideSpec)

/-- ITS FALSE NEIGHBOUR: 'it returns false'. Refute it at one input. -/
def cutsInsideWrong : ChangeSpec := { name := "cutsInside", fn := fun _ => fun
  | [d1, d2, d3, d4] => { results := [.lit (.bool false)], args := [d1, d2, d3, d4] }
  | _ => none }
def CutsInsideWrongFalsely : Prop := cutsInsideRow.holds Try.pinned (OpenSpec.ofChange cutsInsideWrong)

/-- 'congoulaw02.CutsKeeps': WHATEVER THE INPUT: true; the input reads as it did. -/
def cutsKeepsSpec : ChangeSpec := { name := "cutsKeeps", fn := fun _ => fun
  | [d1, d2, d3] => { results := [.lit (.bool true)], args := [d1, d2, d3] }
  | _ => none }
def cutsKeepsRow : OpenClaim := { program := "yteefkljbmjjncaa", sum := "6035732ac656888b145a1f4c69c0041ba57a53b14e91efa0a304ae806bf71c58", func := "congou/congoulaw02.CutsKeeps", spec := "cutsKeeps", unfollowed := true, recurses := true, apart := false }
def CutsKeepsSaid : Prop := cutsKeepsRow.holds Try.pinned (OpenSpec.ofChange cutsKeepsSpec)

/-- ITS FALSE NEIGHBOUR: 'it returns false'. Refute it at one input. -/
def cutsKeepsWrong : ChangeSpec := { name := "cutsKeeps", fn := fun _ => fun
  | [d1, d2, d3] => { results := [.lit (.bool false)], args := [d1, d2, d3] }
  | _ => none }
def CutsKeepsWrongFalsely : Prop := cutsKeepsRow.holds Try.pinned (OpenSpec.ofChange cutsKeepsWrong)

/-- 'congoulaw02.CutsWithin': WHATEVER THE INPUT: true; the input reads as it did. -/
def cutsWithinSpec : ChangeSpec := { name := "cutsWithin", fn := fun _ => fun
  | [d1, d2, d3] => { results := [.lit (.bool true)], args := [d1, d2, d3] }
  | _ => none }
def cutsWithinRow : OpenClaim := { program := "yteefkljbmjjncaa", sum := "6035732ac656888b145a1f4c69c0041ba57a53b14e91efa0a304ae806bf71c58", func := "congou/congoulaw02.CutsWithin", spec := "cutsWithin", unfollowed := true, recurses := true, apart := false }
def CutsWithinSaid : Prop := cutsWithinRow.holds Try.pinned (OpenSpec.ofChange cutsWithinSpec)

/-- ITS FALSE NEIGHBOUR: 'it returns false'. Refute it at one input. -/
def cutsWithinWrong : ChangeSpec := { name := "cutsWithin", fn := fun _ => fun
  | [d1, d2, d3] => { results := [.lit (.bool false)], args := [d1, d2, d3] }
  | _ => none }
def CutsWithinWrongFalsely : Prop := cutsWithinRow.holds Try.pinned (OpenSpec.ofChange cutsWithinWrong)

/-- 'congoulaw02.CutsTurned': WHATEVER THE INPUT: true; the input reads as it did. -/
def cutsTurnedSpec : ChangeSpec := { name := "cutsTurned", fn := fun _ => fun
  | [d1, d2] => { results := [.lit (.bool true)], args := [d1, d2] }
  | _ => none }
def cutsTurnedRow : OpenClaim := { program := "yteefkljbmjjncaa", sum := "6035732ac656888b145a1f4c69c0041ba57a53b14e91efa0a304ae806bf71c58", func := "congou/congoulaw02.CutsTurned", spec := "cutsTurned", unfollowed := true, recurses := true, apart := false }
def CutsTurnedSaid : Prop := cutsTurnedRow.holds Try.pinned (OpenSpec.ofChange cutsTurnedSpec)

/-- ITS FALSE NEIGHBOUR: 'it returns false'. Refute it at one input. -/
def cutsTurnedWrong : ChangeSpec := { name := "cutsTurned", fn := fun _ => fun
  | [d1, d2] => { results := [.lit (.bool false)], args := [d1, d2] }
  | _ => none }
def CutsTurnedWrongFalsely : Prop := cutsTurnedRow.holds Try.pinned (OpenSpec.ofChange cutsTurnedWrong)

/-- 'congoulaw02.CutsCorners': WHATEVER THE INPUT: true; the input reads as it did. -/
def cutsCornersSpec : ChangeSpec := { name := "cutsCorners", fn := fun _ => fun
  | [d] => { results := [.lit (.bool true)], args := [d] }
  | _ => none }
def cutsCornersRow : OpenClaim := { program := "yteefkljbmjjncaa", sum := "6035732ac656888b145a1f4c69c0041ba57a53b14e91efa0a304ae806bf71c58", func := "congou/congoulaw02.CutsCorners", spec := "cutsCorners", unfollowed := true, recurses := true, apart := false }
def CutsCornersSaid : Prop := cutsCornersRow.holds Try.pinned (OpenSpec.ofChange cutsCornersSpec)

/-- ITS FALSE NEIGHBOUR: 'it returns false'. Refute it at one input. -/
def cutsCornersWrong : ChangeSpec := { name := "cutsCorners", fn := fun _ => fun
  | [d] => { results := [.lit (.bool false)], args := [d] }
  | _ => none }
def CutsCornersWrongFalsely : Prop := cutsCornersRow.holds Try.pinned (OpenSpec.ofChange cutsCornersWrong)

/-- 'congoulaw02.CutsReached': WHATEVER THE INPUT: true; the input reads as it did. -/
def cutsReachedSpec : ChangeSpec := { name := "cutsReached", fn := fun _ => fun
  | [d1, d2, d3] => { results := [.lit (.bool true)], args := [d1, d2, d3] }
  | _ => none }
def cutsReachedRow : OpenClaim := { program := "yteefkljbmjjncaa", sum := "6035732ac656888b145a1f4c69c0041ba57a53b14e91efa0a304ae806bf71c58", func := "congou/congoulaw02.CutsReached", spec := "cutsReached", unfollowed := true, recurses := true, apart := false }
def CutsReachedSaid : Prop := cutsReachedRow.holds Try.pinned (OpenSpec.ofChange cutsReachedSpec)

/-- ITS FALSE NEIGHBOUR: 'it returns false'. Refute it at one input. -/
def cutsReachedWrong : ChangeSpec := { name := "cutsReached", fn := fun _ => fun
  | [d1, d2, d3] => { results := [.lit (.bool false)], args := [d1, d2, d3] }
  | _ => none }
def CutsReachedWrongFalsely : Prop := cutsReachedRow.holds Try.pinned (OpenSpec.ofChange cutsReachedWrong)

/-- 'congoulaw02.CutsSharp': WHATEVER THE INPUT: true; the input reads as it did. -/
def cutsSharpSpec : ChangeSpec := { name := "cutsSharp", fn := fun _ => fun
  | [d1, d2] => { results := [.lit (.bool true)], args := [d1, d2] }
  | _ => none }
def cutsSharpRow : OpenClaim := { program := "yteefkljbmjjncaa", sum := "6035732ac656888b145a1f4c69c0041ba57a53b14e91efa0a304ae806bf71c58", func := "congou/congoulaw02.CutsSharp", spec := "cutsSharp", unfollowed := true, recurses := true, apart := false }
def CutsSharpSaid : Prop := cutsSharpRow.holds Try.pinned (OpenSpec.ofChange cutsSharpSpec)

/-- ITS FALSE NEIGHBOUR: 'it returns false'. Refute it at one input. -/
def cutsSharpWrong : ChangeSpec := { name := "cutsSharp", fn := fun _ => fun
  | [d1, d2] => { results := [.lit (.bool false)], args := [d1, d2] }
  | _ => none }
def CutsSharpWrongFalsely : Prop := cutsSharpRow.holds Try.pinned (OpenSpec.ofChange cutsSharpWrong)

/-- 'congoulaw02.CutsBest': WHATEVER THE INPUT: true; the input reads as it did. -/
def cutsBestSpec : ChangeSpec := { name := "cutsBest", fn := fun _ => fun
  | [d1, d2, d3] => { results := [.lit (.bool true)], args := [d1, d2, d3] }
  | _ => none }
def cutsBestRow : OpenClaim := { program := "yteefkljbmjjncaa", sum := "6035732ac656888b145a1f4c69c0041ba57a53b14e91efa0a304ae806bf71c58", func := "congou/congoulaw02.CutsBest", spec := "cutsBest", unfollowed := true, recurses := true, apart := false }
def CutsBestSaid : Prop := cutsBestRow.holds Try.pinned (OpenSpec.ofChange cutsBestSpec)

/-- ITS FALSE NEIGHBOUR: 'it returns false'. Refute it at one input. -/
def cutsBestWrong : ChangeSpec := { name := "cutsBest", fn := fun _ => fun
  | [d1, d2, d3] => { results := [.lit (.bool false)], args := [d1, d2, d3] }
  | _ => none }
def CutsBestWrongFalsely : Prop := cutsBestRow.holds Try.pinned (OpenSpec.ofChange cutsBestWrong)

/-- 'congoulaw02.CutsLess': WHATEVER THE INPUT: true; the input reads as it did. -/
def cutsLessSpec : ChangeSpec := { name := "cutsLess", fn := fun _ => fun
  | [d1, d2, d3] => { results := [.lit (.bool true)], args := [d1, d2, d3] }
  | _ => none }
def cutsLessRow : OpenClaim := { program := "yteefkljbmjjncaa", sum := "6035732ac656888b145a1f4c69c0041ba57a53b14e91efa0a304ae806bf71c58", func := "congou/congoulaw02.CutsLess", spec := "cutsLess", unfollowed := true, recurses := true, apart := false }
def CutsLessSaid : Prop := cutsLessRow.holds Try.pinned (OpenSpec.ofChange cutsLessSpec)

/-- ITS FALSE NEIGHBOUR: 'it returns false'. Refute it at one input. -/
def cutsLessWrong : ChangeSpec := { name := "cutsLess", fn := fun _ => fun
  | [d1, d2, d3] => { results := [.lit (.bool false)], args := [d1, d2, d3] }
  | _ => none }
def CutsLessWrongFalsely : Prop := cutsLessRow.holds Try.pinned (OpenSpec.ofChange cutsLessWrong)

/-- 'congoulaw02.CutsMoved': WHATEVER THE INPUT: true; the input reads as it did. -/
def cutsMovedSpec : ChangeSpec := { name := "cutsMoved", fn := fun _ => fun
  | [d1, d2, d3, d4] => { results := [.lit (.bool true)], args := [d1, d2, d3, d4] }
  | _ => none }
def cutsMovedRow : OpenClaim := { program := "yteefkljbmjjncaa", sum := "6035732ac656888b145a1f4c69c0041ba57a53b14e91efa0a304ae806bf71c58", func := "congou/congoulaw02.CutsMoved", spec := "cutsMoved", unfollowed := true, recurses := true, apart := false }
def CutsMovedSaid : Prop := cutsMovedRow.holds Try.pinned (OpenSpec.ofChange cutsMovedSpec)

/-- ITS FALSE NEIGHBOUR: 'it returns false'. Refute it at one input. -/
def cutsMovedWrong : ChangeSpec := { name := "cutsMoved", fn := fun _ => fun
  | [d1, d2, d3, d4] => { results := [.lit (.bool false)], args := [d1, d2, d3, d4] }
  | _ => none }
def CutsMovedWrongFalsely : Prop := cutsMovedRow.holds Try.pinned (OpenSpec.ofChange cutsMovedWrong)

/- THE SECOND FORM. 'bulk': how many values and letters a reading holds, each counted each time it is reached (what is shared counts as often as it is met; a slice's spare places count too). A statement '..UptoSaid' is the law's where the arguments, and the package variables that the reading takes, are together of bulk at most 1048576: NARROWER than '..Said'. Prove '..Said' where nothing that the law and all that it calls make is longer than what came in: it says more and counts as full. Else prove '..UptoSaid'. A law counts once. -/
mutual
def uptoBulk {H : Type} : DataW H → Nat
  | .lit (.string bytes) => bytes.length + 1
  | .lit _ => 1
  | .nil => 1
  | .ptr d => uptoBulk d + 1
  | .slice elems spare => uptoBulkAll elems + uptoBulkAll spare + 1
  | .agg parts => uptoBulkAll parts + 1
  | .iface _ d => uptoBulk d + 1
  | .map entries => uptoBulkEntries entries + 1
  | .held _ => 1
def uptoBulkAll {H : Type} : List (DataW H) → Nat
  | [] => 0
  | d :: r => uptoBulk d + uptoBulkAll r
def uptoBulkEntries {H : Type} : List (Lit × DataW H) → Nat
  | [] => 0
  | x :: r => uptoBulkEntry x + uptoBulkEntries r
def uptoBulkEntry {H : Type} : Lit × DataW H → Nat
  | (.string bytes, d) => bytes.length + uptoBulk d + 1
  | (_, d) => uptoBulk d + 1
 end
def uptoSmall : (H : Type) → List (DataW H) → Bool := fun _ ds => decide (uptoBulkAll ds ≤ 1048576)
def OpenSpec.upto (s : _root_.Go.ChangeSpec) : _root_.Go.OpenSpec := { _root_.Go.OpenSpec.ofChange s with cond := some uptoSmall }

/-- 'congoulaw02.CutsRounds', WHERE WHAT IT READS IS OF BULK AT MOST 1048576: true; the input reads as it did. -/
def cutsRoundsUptoRow : OpenClaim := { program := "yteefkljbmjjncaa", sum := "6035732ac656888b145a1f4c69c0041ba57a53b14e91efa0a304ae806bf71c58", func := "congou/congoulaw02.CutsRounds", spec := "cutsRounds", unfollowed := true, recurses := true, apart := false, narrowed := true }
def CutsRoundsUptoSaid : Prop := cutsRoundsUptoRow.holds Try.pinned (OpenSpec.upto cutsRoundsSpec)

/-- 'congoulaw02.CutsHulls', WHERE WHAT IT READS IS OF BULK AT MOST 1048576: true; the input reads as it did. -/
def cutsHullsUptoRow : OpenClaim := { program := "yteefkljbmjjncaa", sum := "6035732ac656888b145a1f4c69c0041ba57a53b14e91efa0a304ae806bf71c58", func := "congou/congoulaw02.CutsHulls", spec := "cutsHulls", unfollowed := true, recurses := true, apart := false, narrowed := true }
def CutsHullsUptoSaid : Prop := cutsHullsUptoRow.holds Try.pinned (OpenSpec.upto cutsHullsSpec)

/-- 'congoulaw02.CutsCuts', WHERE WHAT IT READS IS OF BULK AT MOST 1048576: true; the input reads as it did. -/
def cutsCutsUptoRow : OpenClaim := { program := "yteefkljbmjjncaa", sum := "6035732ac656888b145a1f4c69c0041ba57a53b14e91efa0a304ae806bf71c58", func := "congou/congoulaw02.CutsCuts", spec := "cutsCuts", unfollowed := true, recurses := true, apart := false, narrowed := true }
def CutsCutsUptoSaid : Prop := cutsCutsUptoRow.holds Try.pinned (OpenSpec.upto cutsCutsSpec)

/-- 'congoulaw02.CutsMoves', WHERE WHAT IT READS IS OF BULK AT MOST 1048576: true; the input reads as it did. -/
def cutsMovesUptoRow : OpenClaim := { program := "yteefkljbmjjncaa", sum := "6035732ac656888b145a1f4c69c0041ba57a53b14e91efa0a304ae806bf71c58", func := "congou/congoulaw02.CutsMoves", spec := "cutsMoves", unfollowed := true, recurses := true, apart := false, narrowed := true }
def CutsMovesUptoSaid : Prop := cutsMovesUptoRow.holds Try.pinned (OpenSpec.upto cutsMovesSpec)

/-- 'congoulaw02.CutsInside', WHERE WHAT IT READS IS OF BULK AT MOST 1048576: true; the input reads as it did. -/
def cutsInsideUptoRow : OpenClaim := { program := "yteefkljbmjjncaa", sum := "6035732ac656888b145a1f4c69c0041ba57a53b14e91efa0a304ae806bf71c58", func := "congou/congoulaw02.CutsInside", spec := "cutsInside", unfollowed := true, recurses := true, apart := false, narrowed := true }
def CutsInsideUptoSaid : Prop := cutsInsideUptoRow.holds Try.pinned (OpenSpec.upto cutsInsideSpec)

/-- 'congoulaw02.CutsKeeps', WHERE WHAT IT READS IS OF BULK AT MOST 1048576: true; the input reads as it did. -/
def cutsKeepsUptoRow : OpenClaim := { program := "yteefkljbmjjncaa", sum := "6035732ac656888b145a1f4c69c0041ba57a53b14e91efa0a304ae806bf71c58", func := "congou/congoulaw02.CutsKeeps", spec := "cutsKeeps", unfollowed := true, recurses := true, apart := false, narrowed := true }
def CutsKeepsUptoSaid : Prop := cutsKeepsUptoRow.holds Try.pinned (OpenSpec.upto cutsKeepsSpec)

/-- 'congoulaw02.CutsWithin', WHERE WHAT IT READS IS OF BULK AT MOST 1048576: true; the input reads as it did. -/
def cutsWithinUptoRow : OpenClaim := { program := "yteefkljbmjjncaa", sum := "6035732ac656888b145a1f4c69c0041ba57a53b14e91efa0a304ae806bf71c58", func := "congou/congoulaw02.CutsWithin", spec := "cutsWithin", unfollowed := true, recurses := true, apart := false, narrowed := true }
def CutsWithinUptoSaid : Prop := cutsWithinUptoRow.holds Try.pinned (OpenSpec.upto cutsWithinSpec)

/-- 'congoulaw02.CutsTurned', WHERE WHAT IT READS IS OF BULK AT MOST 1048576: true; the input reads as it did. -/
def cutsTurnedUptoRow : OpenClaim := { program := "yteefkljbmjjncaa", sum := "6035732ac656888b145a1f4c69c0041ba57a53b14e91efa0a304ae806bf71c58", func := "congou/congoulaw02.CutsTurned", spec := "cutsTurned", unfollowed := true, recurses := true, apart := false, narrowed := true }
def CutsTurnedUptoSaid : Prop := cutsTurnedUptoRow.holds Try.pinned (OpenSpec.upto cutsTurnedSpec)

/-- 'congoulaw02.CutsCorners', WHERE WHAT IT READS IS OF BULK AT MOST 1048576: true; the input reads as it did. -/
def cutsCornersUptoRow : OpenClaim := { program := "yteefkljbmjjncaa", sum := "6035732ac656888b145a1f4c69c0041ba57a53b14e91efa0a304ae806bf71c58", func := "congou/congoulaw02.CutsCorners", spec := "cutsCorners", unfollowed := true, recurses := true, apart := false, narrowed := true }
def CutsCornersUptoSaid : Prop := cutsCornersUptoRow.holds Try.pinned (OpenSpec.upto cutsCornersSpec)

/-- 'congoulaw02.CutsReached', WHERE WHAT IT READS IS OF BULK AT MOST 1048576: true; the input reads as it did. -/
def cutsReachedUptoRow : OpenClaim := { program := "yteefkljbmjjncaa", sum := "6035732ac656888b145a1f4c69c0041ba57a53b14e91efa0a304ae806bf71c58", func := "congou/congoulaw02.CutsReached", spec := "cutsReached", unfollowed := true, recurses := true, apart := false, narrowed := true }
def CutsReachedUptoSaid : Prop := cutsReachedUptoRow.holds Try.pinned (OpenSpec.upto cutsReachedSpec)

/-- 'congoulaw02.CutsSharp', WHERE WHAT IT READS IS OF BULK AT MOST 1048576: true; the input reads as it did. -/
def cutsSharpUptoRow : OpenClaim := { program := "yteefkljbmjjncaa", sum := "6035732ac656888b145a1f4c69c0041ba57a53b14e91efa0a304ae806bf71c58", func := "congou/congoulaw02.CutsSharp", spec := "cutsSharp", unfollowed := true, recurses := true, apart := false, narrowed := true }
def CutsSharpUptoSaid : Prop := cutsSharpUptoRow.holds Try.pinned (OpenSpec.upto cutsSharpSpec)

/-- 'congoulaw02.CutsBest', WHERE WHAT IT READS IS OF BULK AT MOST 1048576: true; the input reads as it did. -/
def cutsBestUptoRow : OpenClaim := { program := "yteefkljbmjjncaa", sum := "6035732ac656888b145a1f4c69c0041ba57a53b14e91efa0a304ae806bf71c58", func := "congou/congoulaw02.CutsBest", spec := "cutsBest", unfollowed := true, recurses := true, apart := false, narrowed := true }
def CutsBestUptoSaid : Prop := cutsBestUptoRow.holds Try.pinned (OpenSpec.upto cutsBestSpec)

/-- 'congoulaw02.CutsLess', WHERE WHAT IT READS IS OF BULK AT MOST 1048576: true; the input reads as it did. -/
def cutsLessUptoRow : OpenClaim := { program := "yteefkljbmjjncaa", sum := "6035732ac656888b145a1f4c69c0041ba57a53b14e91efa0a304ae806bf71c58", func := "congou/congoulaw02.CutsLess", spec := "cutsLess", unfollowed := true, recurses := true, apart := false, narrowed := true }
def CutsLessUptoSaid : Prop := cutsLessUptoRow.holds Try.pinned (OpenSpec.upto cutsLessSpec)

/-- 'congoulaw02.CutsMoved', WHERE WHAT IT READS IS OF BULK AT MOST 1048576: true; the input reads as it did. -/
def cutsMovedUptoRow : OpenClaim := { program := "yteefkljbmjjncaa", sum := "6035732ac656888b145a1f4c69c0041ba57a53b14e91efa0a304ae806bf71c58", func := "congou/congoulaw02.CutsMoved", spec := "cutsMoved", unfollowed := true, recurses := true, apart := false, narrowed := true }
def CutsMovedUptoSaid : Prop := cutsMovedUptoRow.holds Try.pinned (OpenSpec.upto cutsMovedSpec)

end Rows
end Go.Proofs.Yteefkljbmjjncaa
