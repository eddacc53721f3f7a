/-
  No cell of these rows narrows 'for every input' (looked for: loops, veiled, ifaces, maps, wideKeys, modest, calm, conditions, laid).
  DERIVED. THE GIVEN ROWS OF THIS SEAT. 12 by the template 'for every input the law returns true; each argument reads behind the call as it read before'; 0 by the template 'total and deterministic' (their statements: YtficeemoekikdaaTotals.lean).
  GIVEN WITH THE SEED: the statements are not yours to turn. If you find one false, say at which input.
  Laid BY PROGRAM, IN A SANDBOX (cutbox-rows.mjs): the forced cells as the released guide's own fill.sh prints them over the translation e31507c1ca29915f… (all of the seat's roots in one cut). By AI agents, Wed Nov 11 2026. No macro, syntax, notation, axiom, sorry.
-/
import Derived.Test.YtficeemoekikdaaChecked
import GoSem.Claim
import GoSem.ClaimJoined
import GoSem.ClaimMapViews
import Derived.JoinedTies
import Derived.KernelRfl
namespace Go.Proofs.Ytficeemoekikdaa
/- THE CELL 'sum', in the pinned program and in every row, IS THE sha256 OF THE DUMP (.gsa) THAT YtficeemoekikdaaProg.lean LOADS. Nothing in Lean hashes anything: it is a label: what it is worth is what the hold of that sum in a sandbox is worth. -/
noncomputable def Try.pinned : Pinned := { name := "ytficeemoekikdaa", sum := "e31507c1ca29915f0a887549feec2edaabe729ad9e8fadde91d2db40c4571e50", checked := Try.checked }
namespace Rows
def none {H : Type} : Left H := { results := [], args := [] }

/-- 'congoulaw05.DealsSteps': WHATEVER THE INPUT: true; the input reads as it did. -/
def dealsStepsSpec : ChangeSpec := { name := "dealsSteps", fn := fun _ => fun
  | [d1, d2, d3] => { results := [.lit (.bool true)], args := [d1, d2, d3] }
  | _ => none }
def dealsStepsRow : OpenClaim := { program := "ytficeemoekikdaa", sum := "e31507c1ca29915f0a887549feec2edaabe729ad9e8fadde91d2db40c4571e50", func := "congou/congoulaw05.DealsSteps", spec := "dealsSteps", unfollowed := true, recurses := true, apart := false }
def DealsStepsSaid : Prop := dealsStepsRow.holds Try.pinned (OpenSpec.ofChange dealsStepsSpec)

/-- ITS FALSE NEIGHBOUR: 'it returns false'. Refute it at one input. -/
def dealsStepsWrong : ChangeSpec := { name := "dealsSteps", fn := fun _ => fun
  | [d1, d2, d3] => { results := [.lit (.bool false)], args := [d1, d2, d3] }
  | _ => none }
def DealsStepsWrongFalsely : Prop := dealsStepsRow.holds Try.pinned (OpenSpec.ofChange dealsStepsWrong)

/-- 'congoulaw05.DealsNear': WHATEVER THE INPUT: true; the input reads as it did. -/
def dealsNearSpec : ChangeSpec := { name := "dealsNear", fn := fun _ => fun
  | [d1, d2, d3] => { results := [.lit (.bool true)], args := [d1, d2, d3] }
  | _ => none }
def dealsNearRow : OpenClaim := { program := "ytficeemoekikdaa", sum := "e31507c1ca29915f0a887549feec2edaabe729ad9e8fadde91d2db40c4571e50", func := "congou/congoulaw05.DealsNear", spec := "dealsNear", unfollowed := true, recurses := true, apart := false }
def DealsNearSaid : Prop := dealsNearRow.holds Try.pinned (OpenSpec.ofChange dealsNearSpec)

/-- ITS FALSE NEIGHBOUR: 'it returns false'. Refute it at one input. -/
def dealsNearWrong : ChangeSpec := { name := "dealsNear", fn := fun _ => fun
  | [d1, d2, d3] => { results := [.lit (.bool false)], args := [d1, d2, d3] }
  | _ => none }
def DealsNearWrongFalsely : Prop := dealsNearRow.holds Try.pinned (OpenSpec.ofChange dealsNearWrong)

/-- 'congoulaw05.DealsIs': WHATEVER THE INPUT: true; the input reads as it did. -/
def dealsIsSpec : ChangeSpec := { name := "dealsIs", fn := fun _ => fun
  | [d1, d2] => { results := [.lit (.bool true)], args := [d1, d2] }
  | _ => none }
def dealsIsRow : OpenClaim := { program := "ytficeemoekikdaa", sum := "e31507c1ca29915f0a887549feec2edaabe729ad9e8fadde91d2db40c4571e50", func := "congou/congoulaw05.DealsIs", spec := "dealsIs", unfollowed := true, recurses := true, apart := false }
def DealsIsSaid : Prop := dealsIsRow.holds Try.pinned (OpenSpec.ofChange dealsIsSpec)

/-- ITS FALSE NEIGHBOUR: 'it returns false'. Refute it at one input. -/
def dealsIsWrong : ChangeSpec := { name := "dealsIs", fn := fun _ => fun
  | [d1, d2] => { results := [.lit (.bool false)], args := [d1, d2] }
  | _ => none }
def DealsIsWrongFalsely : Prop := dealsIsRow.holds Try.pinned (OpenSpec.ofChange dealsIsWrong)

/-- 'congoulaw05.DealsEdges': WHATEVER THE INPUT: true; the input reads as it did. -/
def dealsEdgesSpec : ChangeSpec := { name := "dealsEdges", fn := fun _ => fun
  | [d] => { results := [.lit (.bool true)], args := [d] }
  | _ => none }
def dealsEdgesRow : OpenClaim := { program := "ytficeemoekikdaa", sum := "e31507c1ca29915f0a887549feec2edaabe729ad9e8fadde91d2db40c4571e50", func := "congou/congoulaw05.DealsEdges", spec := "dealsEdges", unfollowed := true, recurses := true, apart := false }
def DealsEdgesSaid : Prop := dealsEdgesRow.holds Try.pinned (OpenSpec.ofChange dealsEdgesSpec)

/-- ITS FALSE NEIGHBOUR: 'it returns false'. Refute it at one input. -/
def dealsEdgesWrong : ChangeSpec := { name := "dealsEdges", fn := fun _ => fun
  | [d] => { results := [.lit (.bool false)], args := [d] }
  | _ => none }
def DealsEdgesWrongFalsely : Prop := dealsEdgesRow.holds Try.pinned (OpenSpec.ofChange dealsEdgesWrong)

/-- 'congoulaw05.DealsCorners': WHATEVER THE INPUT: true; the input reads as it did. -/
def dealsCornersSpec : ChangeSpec := { name := "dealsCorners", fn := fun _ => fun
  | [d] => { results := [.lit (.bool true)], args := [d] }
  | _ => none }
def dealsCornersRow : OpenClaim := { program := "ytficeemoekikdaa", sum := "e31507c1ca29915f0a887549feec2edaabe729ad9e8fadde91d2db40c4571e50", func := "congou/congoulaw05.DealsCorners", spec := "dealsCorners", unfollowed := true, recurses := true, apart := false }
def DealsCornersSaid : Prop := dealsCornersRow.holds Try.pinned (OpenSpec.ofChange dealsCornersSpec)

/-- ITS FALSE NEIGHBOUR: 'it returns false'. Refute it at one input. -/
def dealsCornersWrong : ChangeSpec := { name := "dealsCorners", fn := fun _ => fun
  | [d] => { results := [.lit (.bool false)], args := [d] }
  | _ => none }
def DealsCornersWrongFalsely : Prop := dealsCornersRow.holds Try.pinned (OpenSpec.ofChange dealsCornersWrong)

/-- 'congoulaw05.DealsScales': WHATEVER THE INPUT: true; the input reads as it did. -/
def dealsScalesSpec : ChangeSpec := { name := "dealsScales", fn := fun _ => fun
  | [d1, d2, d3, d4] => { results := [.lit (.bool true)], args := [d1, d2, d3, d4] }
  | _ => none }
def dealsScalesRow : OpenClaim := { program := "ytficeemoekikdaa", sum := "e31507c1ca29915f0a887549feec2edaabe729ad9e8fadde91d2db40c4571e50", func := "congou/congoulaw05.DealsScales", spec := "dealsScales", unfollowed := true, recurses := true, apart := false }
def DealsScalesSaid : Prop := dealsScalesRow.holds Try.pinned (OpenSpec.ofChange dealsScalesSpec)

/-- ITS FALSE NEIGHBOUR: 'it returns false'. Refute it at one input. -/
def dealsScalesWrong : ChangeSpec := { name := "dealsScales", fn := fun _ => fun
  | [d1, d2, d3, d4] => { results := [.lit (.bool false)], args := [d1, d2, d3, d4] }
  | _ => none }
def DealsScalesWrongFalsely : Prop := dealsScalesRow.holds Try.pinned (OpenSpec.ofChange dealsScalesWrong)

/-- 'congoulaw05.DealsEqual': WHATEVER THE INPUT: true; the input reads as it did. -/
def dealsEqualSpec : ChangeSpec := { name := "dealsEqual", fn := fun _ => fun
  | [d1, d2] => { results := [.lit (.bool true)], args := [d1, d2] }
  | _ => none }
def dealsEqualRow : OpenClaim := { program := "ytficeemoekikdaa", sum := "e31507c1ca29915f0a887549feec2edaabe729ad9e8fadde91d2db40c4571e50", func := "congou/congoulaw05.DealsEqual", spec := "dealsEqual", unfollowed := true, recurses := true, apart := false }
def DealsEqualSaid : Prop := dealsEqualRow.holds Try.pinned (OpenSpec.ofChange dealsEqualSpec)

/-- ITS FALSE NEIGHBOUR: 'it returns false'. Refute it at one input. -/
def dealsEqualWrong : ChangeSpec := { name := "dealsEqual", fn := fun _ => fun
  | [d1, d2] => { results := [.lit (.bool false)], args := [d1, d2] }
  | _ => none }
def DealsEqualWrongFalsely : Prop := dealsEqualRow.holds Try.pinned (OpenSpec.ofChange dealsEqualWrong)

/-- 'congoulaw05.DealsMore': WHATEVER THE INPUT: true; the input reads as it did. -/
def dealsMoreSpec : ChangeSpec := { name := "dealsMore", fn := fun _ => fun
  | [d1, d2, d3] => { results := [.lit (.bool true)], args := [d1, d2, d3] }
  | _ => none }
def dealsMoreRow : OpenClaim := { program := "ytficeemoekikdaa", sum := "e31507c1ca29915f0a887549feec2edaabe729ad9e8fadde91d2db40c4571e50", func := "congou/congoulaw05.DealsMore", spec := "dealsMore", unfollowed := true, recurses := true, apart := false }
def DealsMoreSaid : Prop := dealsMoreRow.holds Try.pinned (OpenSpec.ofChange dealsMoreSpec)

/-- ITS FALSE NEIGHBOUR: 'it returns false'. Refute it at one input. -/
def dealsMoreWrong : ChangeSpec := { name := "dealsMore", fn := fun _ => fun
  | [d1, d2, d3] => { results := [.lit (.bool false)], args := [d1, d2, d3] }
  | _ => none }
def DealsMoreWrongFalsely : Prop := dealsMoreRow.holds Try.pinned (OpenSpec.ofChange dealsMoreWrong)

/-- 'congoulaw05.DealsAbove': WHATEVER THE INPUT: true; the input reads as it did. -/
def dealsAboveSpec : ChangeSpec := { name := "dealsAbove", fn := fun _ => fun
  | [d1, d2, d3] => { results := [.lit (.bool true)], args := [d1, d2, d3] }
  | _ => none }
def dealsAboveRow : OpenClaim := { program := "ytficeemoekikdaa", sum := "e31507c1ca29915f0a887549feec2edaabe729ad9e8fadde91d2db40c4571e50", func := "congou/congoulaw05.DealsAbove", spec := "dealsAbove", unfollowed := true, recurses := true, apart := false }
def DealsAboveSaid : Prop := dealsAboveRow.holds Try.pinned (OpenSpec.ofChange dealsAboveSpec)

/-- ITS FALSE NEIGHBOUR: 'it returns false'. Refute it at one input. -/
def dealsAboveWrong : ChangeSpec := { name := "dealsAbove", fn := fun _ => fun
  | [d1, d2, d3] => { results := [.lit (.bool false)], args := [d1, d2, d3] }
  | _ => none }
def DealsAboveWrongFalsely : Prop := dealsAboveRow.holds Try.pinned (OpenSpec.ofChange dealsAboveWrong)

/-- 'congoulaw05.DealsScaled': WHATEVER THE INPUT: true; the input reads as it did. -/
def dealsScaledSpec : ChangeSpec := { name := "dealsScaled", fn := fun _ => fun
  | [d1, d2, d3, d4] => { results := [.lit (.bool true)], args := [d1, d2, d3, d4] }
  | _ => none }
def dealsScaledRow : OpenClaim := { program := "ytficeemoekikdaa", sum := "e31507c1ca29915f0a887549feec2edaabe729ad9e8fadde91d2db40c4571e50", func := "congou/congoulaw05.DealsScaled", spec := "dealsScaled", unfollowed := true, recurses := true, apart := false }
def DealsScaledSaid : Prop := dealsScaledRow.holds Try.pinned (OpenSpec.ofChange dealsScaledSpec)

/-- ITS FALSE NEIGHBOUR: 'it returns false'. Refute it at one input. -/
def dealsScaledWrong : ChangeSpec := { name := "dealsScaled", fn := fun _ => fun
  | [d1, d2, d3, d4] => { results := [.lit (.bool false)], args := [d1, d2, d3, d4] }
  | _ => none }
def DealsScaledWrongFalsely : Prop := dealsScaledRow.holds Try.pinned (OpenSpec.ofChange dealsScaledWrong)

/-- 'congoulaw05.DealsSwapped': WHATEVER THE INPUT: true; the input reads as it did. -/
def dealsSwappedSpec : ChangeSpec := { name := "dealsSwapped", fn := fun _ => fun
  | [d1, d2] => { results := [.lit (.bool true)], args := [d1, d2] }
  | _ => none }
def dealsSwappedRow : OpenClaim := { program := "ytficeemoekikdaa", sum := "e31507c1ca29915f0a887549feec2edaabe729ad9e8fadde91d2db40c4571e50", func := "congou/congoulaw05.DealsSwapped", spec := "dealsSwapped", unfollowed := true, recurses := true, apart := false }
def DealsSwappedSaid : Prop := dealsSwappedRow.holds Try.pinned (OpenSpec.ofChange dealsSwappedSpec)

/-- ITS FALSE NEIGHBOUR: 'it returns false'. Refute it at one input. -/
def dealsSwappedWrong : ChangeSpec := { name := "dealsSwapped", fn := fun _ => fun
  | [d1, d2] => { results := [.lit (.bool false)], args := [d1, d2] }
  | _ => none }
def DealsSwappedWrongFalsely : Prop := dealsSwappedRow.holds Try.pinned (OpenSpec.ofChange dealsSwappedWrong)

/-- 'congoulaw05.DealsOthers': WHATEVER THE INPUT: true; the input reads as it did. -/
def dealsOthersSpec : ChangeSpec := { name := "dealsOthers", fn := fun _ => fun
  | [d1, d2, d3] => { results := [.lit (.bool true)], args := [d1, d2, d3] }
  | _ => none }
def dealsOthersRow : OpenClaim := { program := "ytficeemoekikdaa", sum := "e31507c1ca29915f0a887549feec2edaabe729ad9e8fadde91d2db40c4571e50", func := "congou/congoulaw05.DealsOthers", spec := "dealsOthers", unfollowed := true, recurses := true, apart := false }
def DealsOthersSaid : Prop := dealsOthersRow.holds Try.pinned (OpenSpec.ofChange dealsOthersSpec)

/-- ITS FALSE NEIGHBOUR: 'it returns false'. Refute it at one input. -/
def dealsOthersWrong : ChangeSpec := { name := "dealsOthers", fn := fun _ => fun
  | [d1, d2, d3] => { results := [.lit (.bool false)], args := [d1, d2, d3] }
  | _ => none }
def DealsOthersWrongFalsely : Prop := dealsOthersRow.holds Try.pinned (OpenSpec.ofChange dealsOthersWrong)

/- THE SECOND FORM. 'bulk': how many values and letters a reading holds, each counted each time it is reached (what is shared counts as often as it is met; a slice's spare places count too). A statement '..UptoSaid' is the law's where the arguments, and the package variables that the reading takes, are together of bulk at most 1048576: NARROWER than '..Said'. Prove '..Said' where nothing that the law and all that it calls make is longer than what came in: it says more and counts as full. Else prove '..UptoSaid'. A law counts once. -/
mutual
def uptoBulk {H : Type} : DataW H → Nat
  | .lit (.string bytes) => bytes.length + 1
  | .lit _ => 1
  | .nil => 1
  | .ptr d => uptoBulk d + 1
  | .slice elems spare => uptoBulkAll elems + uptoBulkAll spare + 1
  | .agg parts => uptoBulkAll parts + 1
  | .iface _ d => uptoBulk d + 1
  | .map entries => uptoBulkEntries entries + 1
  | .held _ => 1
def uptoBulkAll {H : Type} : List (DataW H) → Nat
  | [] => 0
  | d :: r => uptoBulk d + uptoBulkAll r
def uptoBulkEntries {H : Type} : List (Lit × DataW H) → Nat
  | [] => 0
  | x :: r => uptoBulkEntry x + uptoBulkEntries r
def uptoBulkEntry {H : Type} : Lit × DataW H → Nat
  | (.string bytes, d) => bytes.length + uptoBulk d + 1
  | (_, d) => uptoBulk d + 1
 end
def uptoSmall : (H : Type) → List (DataW H) → Bool := fun _ ds => decide (uptoBulkAll ds ≤ 1048576)
def OpenSpec.upto (s : _root_.Go.ChangeSpec) : _root_.Go.OpenSpec := { _root_.Go.OpenSpec.ofChange s with cond := some uptoSmall }

/-- 'congoulaw05.DealsSteps', WHERE WHAT IT READS IS OF BULK AT MOST 1048576: true; the input reads as it did. -/
def dealsStepsUptoRow : OpenClaim := { program := "ytficeemoekikdaa", sum := "e31507c1ca29915f0a887549feec2edaabe729ad9e8fadde91d2db40c4571e50", func := "congou/congoulaw05.DealsSteps", spec := "dealsSteps", unfollowed := true, recurses := true, apart := false, narrowed := true }
def DealsStepsUptoSaid : Prop := dealsStepsUptoRow.holds Try.pinned (OpenSpec.upto dealsStepsSpec)

/-- 'congoulaw05.DealsNear', WHERE WHAT IT READS IS OF BULK AT MOST 1048576: true; the input reads as it did. -/
def dealsNearUptoRow : OpenClaim := { program := "ytficeemoekikdaa", sum := "e31507c1ca29915f0a887549feec2edaabe729ad9e8fadde91d2db40c4571e50", func := "congou/congoulaw05.DealsNear", spec := "dealsNear", unfollowed := true, recurses := true, apart := false, narrowed := true }
def DealsNearUptoSaid : Prop := dealsNearUptoRow.holds Try.pinned (OpenSpec.upto dealsNearSpec)

/-- 'congoulaw05.DealsIs', WHERE WHAT IT READS IS OF BULK AT MOST 1048576: true; the input reads as it did. -/
def dealsIsUptoRow : OpenClaim := { program := "ytficeemoekikdaa", sum := "e31507c1ca29915f0a887549feec2edaabe729ad9e8fadde91d2db40c4571e50", func := "congou/congoulaw05.DealsIs", spec := "dealsIs", unfollowed := true, recurses := true, apart := false, narrowed := true }
def DealsIsUptoSaid : Prop := dealsIsUptoRow.holds Try.pinned (OpenSpec.upto dealsIsSpec)

/-- 'congoulaw05.DealsEdges', WHERE WHAT IT READS IS OF BULK AT MOST 1048576: true; the input reads as it did. -/
def dealsEdgesUptoRow : OpenClaim := { program := "ytficeemoekikdaa", sum := "e31507c1ca29915f0a887549feec2edaabe729ad9e8fadde91d2db40c4571e50", func := "congou/congoulaw05.DealsEdges", spec := "dealsEdges", unfollowed := true, recurses := true, apart := false, narrowed := true }
def DealsEdgesUptoSaid : Prop := dealsEdgesUptoRow.holds Try.pinned (OpenSpec.upto dealsEdgesSpec)

/-- 'congoulaw05.DealsCorners', WHERE WHAT IT READS IS OF BULK AT MOST 1048576: true; the input reads as it did. -/
def dealsCornersUptoRow : OpenClaim := { program := "ytficeemoekikdaa", sum := "e31507c1ca29915f0a887549feec2edaabe729ad9e8fadde91d2db40c4571e50", func := "congou/congoulaw05.DealsCorners", spec := "dealsCorners", unfollowed := true, recurses := true, apart := false, narrowed := true }
def DealsCornersUptoSaid : Prop := dealsCornersUptoRow.holds Try.pinned (OpenSpec.upto dealsCornersSpec)

/-- 'congoulaw05.DealsScales', WHERE WHAT IT READS IS OF BULK AT MOST 1048576: true; the input reads as it did. -/
def dealsScalesUptoRow : OpenClaim := { program := "ytficeemoekikdaa", sum := "e31507c1ca29915f0a887549feec2edaabe729ad9e8fadde91d2db40c4571e50", func := "congou/congoulaw05.DealsScales", spec := "dealsScales", unfollowed := true, recurses := true, apart := false, narrowed := true }
def DealsScalesUptoSaid : Prop := dealsScalesUptoRow.holds Try.pinned (OpenSpec.upto dealsScalesSpec)

/-- 'congoulaw05.DealsEqual', WHERE WHAT IT READS IS OF BULK AT MOST 1048576: true; the input reads as it did. -/
def dealsEqualUptoRow : OpenClaim := { program := "ytficeemoekikdaa", sum := "e31507c1ca29915f0a887549feec2edaabe729ad9e8fadde91d2db40c4571e50", func := "congou/congoulaw05.DealsEqual", spec := "dealsEqual", unfollowed := true, recurses := true, apart := false, narrowed := true }
def DealsEqualUptoSaid : Prop := dealsEqualUptoRow.holds Try.pinned (OpenSpec.upto dealsEqualSpec)

/-- 'congoulaw05.DealsMore', WHERE WHAT IT READS IS OF BULK AT MOST 1048576: true; the input reads as it did. -/
def dealsMoreUptoRow : OpenClaim := { program := "ytficeemoekikdaa", sum := "e31507c1ca29915f0a887549feec2edaabe729ad9e8fadde91d2db40c4571e50", func := "congou/congoulaw05.DealsMore", spec := "dealsMore", unfollowed := true, recurses := true, apart := false, narrowed := true }
def DealsMoreUptoSaid : Prop := dealsMoreUptoRow.holds Try.pinned (OpenSpec.upto dealsMoreSpec)

/-- 'congoulaw05.DealsAbove', WHERE WHAT IT READS IS OF BULK AT MOST 1048576: true; the input reads as it did. -/
def dealsAboveUptoRow : OpenClaim := { program := "ytficeemoekikdaa", sum := "e31507c1ca29915f0a887549feec2edaabe729ad9e8fadde91d2db40c4571e50", func := "congou/congoulaw05.DealsAbove", spec := "dealsAbove", unfollowed := true, recurses := true, apart := false, narrowed := true }
def DealsAboveUptoSaid : Prop := dealsAboveUptoRow.holds Try.pinned (OpenSpec.upto dealsAboveSpec)

/-- 'congoulaw05.DealsScaled', WHERE WHAT IT READS IS OF BULK AT MOST 1048576: true; the input reads as it did. -/
def dealsScaledUptoRow : OpenClaim := { program := "ytficeemoekikdaa", sum := "e31507c1ca29915f0a887549feec2edaabe729ad9e8fadde91d2db40c4571e50", func := "congou/congoulaw05.DealsScaled", spec := "dealsScaled", unfollowed := true, recurses := true, apart := false, narrowed := true }
def DealsScaledUptoSaid : Prop := dealsScaledUptoRow.holds Try.pinned (OpenSpec.upto dealsScaledSpec)

/-- 'congoulaw05.DealsSwapped', WHERE WHAT IT READS IS OF BULK AT MOST 1048576: true; the input reads as it did. -/
def dealsSwappedUptoRow : OpenClaim := { program := "ytficeemoekikdaa", sum := "e31507c1ca29915f0a887549feec2edaabe729ad9e8fadde91d2db40c4571e50", func := "congou/congoulaw05.DealsSwapped", spec := "dealsSwapped", unfollowed := true, recurses := true, apart := false, narrowed := true }
def DealsSwappedUptoSaid : Prop := dealsSwappedUptoRow.holds Try.pinned (OpenSpec.upto dealsSwappedSpec)

/-- 'congoulaw05.DealsOthers', WHERE WHAT IT READS IS OF BULK AT MOST 1048576: true; the input reads as it did. -/
def dealsOthersUptoRow : OpenClaim := { program := "ytficeemoekikdaa", sum := "e31507c1ca29915f0a887549feec2edaabe729ad9e8fadde91d2db40c4571e50", func := "congou/congoulaw05.DealsOthers", spec := "dealsOthers", unfollowed := true, recurses := true, apart := false, narrowed := true }
def DealsOthersUptoSaid : Prop := dealsOthersUptoRow.holds Try.pinned (OpenSpec.upto dealsOthersSpec)

end Rows
end Go.Proofs.Ytficeemoekikdaa
