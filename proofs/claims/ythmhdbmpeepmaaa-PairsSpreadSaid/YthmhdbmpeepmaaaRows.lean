/-
  No cell of these rows narrows 'for every input' (looked for: loops, veiled, ifaces, maps, wideKeys, modest, calm, conditions, laid).
  DERIVED. THE GIVEN ROWS OF THIS SEAT. 17 by the template 'for every input the law returns true; each argument reads behind the call as it read before'; 0 by the template 'total and deterministic' (their statements: YthmhdbmpeepmaaaTotals.lean).
  GIVEN WITH THE SEED: the statements are not yours to turn. If you find one false, say at which input.
  Laid BY PROGRAM, IN A SANDBOX (cutbox-rows.mjs): the forced cells as the released guide's own fill.sh prints them over the translation a5979cb7c75898fb… (all of the seat's roots in one cut). By AI agents, Wed Nov 11 2026. No macro, syntax, notation, axiom, sorry.
-/
import Derived.Test.YthmhdbmpeepmaaaChecked
import GoSem.Claim
import GoSem.ClaimJoined
import GoSem.ClaimMapViews
import Derived.JoinedTies
import Derived.KernelRfl
namespace Go.Proofs.Ythmhdbmpeepmaaa
/- THE CELL 'sum', in the pinned program and in every row, IS THE sha256 OF THE DUMP (.gsa) THAT YthmhdbmpeepmaaaProg.lean LOADS. Nothing in Lean hashes anything: it is a label: what it is worth is what the hold of that sum in a sandbox is worth. -/
noncomputable def Try.pinned : Pinned := { name := "ythmhdbmpeepmaaa", sum := "a5979cb7c75898fb1c197d1ec5e3ea0cb3ffbf262ade330dc1bb061d272bb725", checked := Try.checked }
namespace Rows
def none {H : Type} : Left H := { results := [], args := [] }

/-- 'congoulaw08.PairsFirst': WHATEVER THE INPUT: true; the input reads as it did. -/
def pairsFirstSpec : ChangeSpec := { name := "pairsFirst", fn := fun _ => fun
  | [d1, d2] => { results := [.lit (.bool true)], args := [d1, d2] }
  | _ => none }
def pairsFirstRow : OpenClaim := { program := "ythmhdbmpeepmaaa", sum := "a5979cb7c75898fb1c197d1ec5e3ea0cb3ffbf262ade330dc1bb061d272bb725", func := "congou/congoulaw08.PairsFirst", spec := "pairsFirst", unfollowed := true, recurses := true, plainKeys := false, apart := false }
def PairsFirstSaid : Prop := pairsFirstRow.holds Try.pinned (OpenSpec.ofChange pairsFirstSpec)

/-- ITS FALSE NEIGHBOUR: 'it returns false'. Refute it at one input. -/
def pairsFirstWrong : ChangeSpec := { name := "pairsFirst", fn := fun _ => fun
  | [d1, d2] => { results := [.lit (.bool false)], args := [d1, d2] }
  | _ => none }
def PairsFirstWrongFalsely : Prop := pairsFirstRow.holds Try.pinned (OpenSpec.ofChange pairsFirstWrong)

/-- 'congoulaw08.PairsWelch': WHATEVER THE INPUT: true; the input reads as it did. -/
def pairsWelchSpec : ChangeSpec := { name := "pairsWelch", fn := fun _ => fun
  | [d1, d2] => { results := [.lit (.bool true)], args := [d1, d2] }
  | _ => none }
def pairsWelchRow : OpenClaim := { program := "ythmhdbmpeepmaaa", sum := "a5979cb7c75898fb1c197d1ec5e3ea0cb3ffbf262ade330dc1bb061d272bb725", func := "congou/congoulaw08.PairsWelch", spec := "pairsWelch", unfollowed := true, recurses := true, plainKeys := false, apart := false }
def PairsWelchSaid : Prop := pairsWelchRow.holds Try.pinned (OpenSpec.ofChange pairsWelchSpec)

/-- ITS FALSE NEIGHBOUR: 'it returns false'. Refute it at one input. -/
def pairsWelchWrong : ChangeSpec := { name := "pairsWelch", fn := fun _ => fun
  | [d1, d2] => { results := [.lit (.bool false)], args := [d1, d2] }
  | _ => none }
def PairsWelchWrongFalsely : Prop := pairsWelchRow.holds Try.pinned (OpenSpec.ofChange pairsWelchWrong)

/-- 'congoulaw08.PairsRows': WHATEVER THE INPUT: true; the input reads as it did. -/
def pairsRowsSpec : ChangeSpec := { name := "pairsRows", fn := fun _ => fun
  | [d1, d2] => { results := [.lit (.bool true)], args := [d1, d2] }
  | _ => none }
def pairsRowsRow : OpenClaim := { program := "ythmhdbmpeepmaaa", sum := "a5979cb7c75898fb1c197d1ec5e3ea0cb3ffbf262ade330dc1bb061d272bb725", func := "congou/congoulaw08.PairsRows", spec := "pairsRows", unfollowed := true, recurses := true, plainKeys := false, apart := false }
def PairsRowsSaid : Prop := pairsRowsRow.holds Try.pinned (OpenSpec.ofChange pairsRowsSpec)

/-- ITS FALSE NEIGHBOUR: 'it returns false'. Refute it at one input. -/
def pairsRowsWrong : ChangeSpec := { name := "pairsRows", fn := fun _ => fun
  | [d1, d2] => { results := [.lit (.bool false)], args := [d1, d2] }
  | _ => none }
def PairsRowsWrongFalsely : Prop := pairsRowsRow.holds Try.pinned (OpenSpec.ofChange pairsRowsWrong)

/-- 'congoulaw08.PairsWhen': WHATEVER THE INPUT: true; the input reads as it did. -/
def pairsWhenSpec : ChangeSpec := { name := "pairsWhen", fn := fun _ => fun
  | [d1, d2] => { results := [.lit (.bool true)], args := [d1, d2] }
  | _ => none }
def pairsWhenRow : OpenClaim := { program := "ythmhdbmpeepmaaa", sum := "a5979cb7c75898fb1c197d1ec5e3ea0cb3ffbf262ade330dc1bb061d272bb725", func := "congou/congoulaw08.PairsWhen", spec := "pairsWhen", unfollowed := true, recurses := true, plainKeys := false, apart := false }
def PairsWhenSaid : Prop := pairsWhenRow.holds Try.pinned (OpenSpec.ofChange pairsWhenSpec)

/-- ITS FALSE NEIGHBOUR: 'it returns false'. Refute it at one input. -/
def pairsWhenWrong : ChangeSpec := { name := "pairsWhen", fn := fun _ => fun
  | [d1, d2] => { results := [.lit (.bool false)], args := [d1, d2] }
  | _ => none }
def PairsWhenWrongFalsely : Prop := pairsWhenRow.holds Try.pinned (OpenSpec.ofChange pairsWhenWrong)

/-- 'congoulaw08.PairsDifferences': WHATEVER THE INPUT: true; the input reads as it did. -/
def pairsDifferencesSpec : ChangeSpec := { name := "pairsDifferences", fn := fun _ => fun
  | [d] => { results := [.lit (.bool true)], args := [d] }
  | _ => none }
def pairsDifferencesRow : OpenClaim := { program := "ythmhdbmpeepmaaa", sum := "a5979cb7c75898fb1c197d1ec5e3ea0cb3ffbf262ade330dc1bb061d272bb725", func := "congou/congoulaw08.PairsDifferences", spec := "pairsDifferences", unfollowed := true, recurses := true, plainKeys := false, apart := false }
def PairsDifferencesSaid : Prop := pairsDifferencesRow.holds Try.pinned (OpenSpec.ofChange pairsDifferencesSpec)

/-- ITS FALSE NEIGHBOUR: 'it returns false'. Refute it at one input. -/
def pairsDifferencesWrong : ChangeSpec := { name := "pairsDifferences", fn := fun _ => fun
  | [d] => { results := [.lit (.bool false)], args := [d] }
  | _ => none }
def PairsDifferencesWrongFalsely : Prop := pairsDifferencesRow.holds Try.pinned (OpenSpec.ofChange pairsDifferencesWrong)

/-- 'congoulaw08.PairsQuarters': WHATEVER THE INPUT: true; the input reads as it did. -/
def pairsQuartersSpec : ChangeSpec := { name := "pairsQuarters", fn := fun _ => fun
  | [d] => { results := [.lit (.bool true)], args := [d] }
  | _ => none }
def pairsQuartersRow : OpenClaim := { program := "ythmhdbmpeepmaaa", sum := "a5979cb7c75898fb1c197d1ec5e3ea0cb3ffbf262ade330dc1bb061d272bb725", func := "congou/congoulaw08.PairsQuarters", spec := "pairsQuarters", unfollowed := true, recurses := true, plainKeys := false, apart := false }
def PairsQuartersSaid : Prop := pairsQuartersRow.holds Try.pinned (OpenSpec.ofChange pairsQuartersSpec)

/-- ITS FALSE NEIGHBOUR: 'it returns false'. Refute it at one input. -/
def pairsQuartersWrong : ChangeSpec := { name := "pairsQuarters", fn := fun _ => fun
  | [d] => { results := [.lit (.bool false)], args := [d] }
  | _ => none }
def PairsQuartersWrongFalsely : Prop := pairsQuartersRow.holds Try.pinned (OpenSpec.ofChange pairsQuartersWrong)

/-- 'congoulaw08.PairsSplits': WHATEVER THE INPUT: true; the input reads as it did. -/
def pairsSplitsSpec : ChangeSpec := { name := "pairsSplits", fn := fun _ => fun
  | [d1, d2, d3] => { results := [.lit (.bool true)], args := [d1, d2, d3] }
  | _ => none }
def pairsSplitsRow : OpenClaim := { program := "ythmhdbmpeepmaaa", sum := "a5979cb7c75898fb1c197d1ec5e3ea0cb3ffbf262ade330dc1bb061d272bb725", func := "congou/congoulaw08.PairsSplits", spec := "pairsSplits", unfollowed := true, recurses := true, plainKeys := false, apart := false }
def PairsSplitsSaid : Prop := pairsSplitsRow.holds Try.pinned (OpenSpec.ofChange pairsSplitsSpec)

/-- ITS FALSE NEIGHBOUR: 'it returns false'. Refute it at one input. -/
def pairsSplitsWrong : ChangeSpec := { name := "pairsSplits", fn := fun _ => fun
  | [d1, d2, d3] => { results := [.lit (.bool false)], args := [d1, d2, d3] }
  | _ => none }
def PairsSplitsWrongFalsely : Prop := pairsSplitsRow.holds Try.pinned (OpenSpec.ofChange pairsSplitsWrong)

/-- 'congoulaw08.PairsPins': WHATEVER THE INPUT: true; the input reads as it did. -/
def pairsPinsSpec : ChangeSpec := { name := "pairsPins", fn := fun _ => fun
  | [d1, d2] => { results := [.lit (.bool true)], args := [d1, d2] }
  | _ => none }
def pairsPinsRow : OpenClaim := { program := "ythmhdbmpeepmaaa", sum := "a5979cb7c75898fb1c197d1ec5e3ea0cb3ffbf262ade330dc1bb061d272bb725", func := "congou/congoulaw08.PairsPins", spec := "pairsPins", unfollowed := true, recurses := true, plainKeys := false, apart := false }
def PairsPinsSaid : Prop := pairsPinsRow.holds Try.pinned (OpenSpec.ofChange pairsPinsSpec)

/-- ITS FALSE NEIGHBOUR: 'it returns false'. Refute it at one input. -/
def pairsPinsWrong : ChangeSpec := { name := "pairsPins", fn := fun _ => fun
  | [d1, d2] => { results := [.lit (.bool false)], args := [d1, d2] }
  | _ => none }
def PairsPinsWrongFalsely : Prop := pairsPinsRow.holds Try.pinned (OpenSpec.ofChange pairsPinsWrong)

/-- 'congoulaw08.PairsTurned': WHATEVER THE INPUT: true; the input reads as it did. -/
def pairsTurnedSpec : ChangeSpec := { name := "pairsTurned", fn := fun _ => fun
  | [d1, d2] => { results := [.lit (.bool true)], args := [d1, d2] }
  | _ => none }
def pairsTurnedRow : OpenClaim := { program := "ythmhdbmpeepmaaa", sum := "a5979cb7c75898fb1c197d1ec5e3ea0cb3ffbf262ade330dc1bb061d272bb725", func := "congou/congoulaw08.PairsTurned", spec := "pairsTurned", unfollowed := true, recurses := true, plainKeys := false, apart := false }
def PairsTurnedSaid : Prop := pairsTurnedRow.holds Try.pinned (OpenSpec.ofChange pairsTurnedSpec)

/-- ITS FALSE NEIGHBOUR: 'it returns false'. Refute it at one input. -/
def pairsTurnedWrong : ChangeSpec := { name := "pairsTurned", fn := fun _ => fun
  | [d1, d2] => { results := [.lit (.bool false)], args := [d1, d2] }
  | _ => none }
def PairsTurnedWrongFalsely : Prop := pairsTurnedRow.holds Try.pinned (OpenSpec.ofChange pairsTurnedWrong)

/-- 'congoulaw08.PairsSpread': WHATEVER THE INPUT: true; the input reads as it did. -/
def pairsSpreadSpec : ChangeSpec := { name := "pairsSpread", fn := fun _ => fun
  | [d1, d2] => { results := [.lit (.bool true)], args := [d1, d2] }
  | _ => none }
def pairsSpreadRow : OpenClaim := { program := "ythmhdbmpeepmaaa", sum := "a5979cb7c75898fb1c197d1ec5e3ea0cb3ffbf262ade330dc1bb061d272bb725", func := "congou/congoulaw08.PairsSpread", spec := "pairsSpread", unfollowed := true, recurses := true, plainKeys := false, apart := false }
def PairsSpreadSaid : Prop := pairsSpreadRow.holds Try.pinned (OpenSpec.ofChange pairsSpreadSpec)

/-- ITS FALSE NEIGHBOUR: 'it returns false'. Refute it at one input. -/
def pairsSpreadWrong : ChangeSpec := { name := "pairsSpread", fn := fun _ => fun
  | [d1, d2] => { results := [.lit (.bool false)], args := [d1, d2] }
  | _ => none }
def PairsSpreadWrongFalsely : Prop := pairsSpreadRow.holds Try.pinned (OpenSpec.ofChange pairsSpreadWrong)

/-- 'congoulaw08.PairsSpreads': WHATEVER THE INPUT: true; the input reads as it did. -/
def pairsSpreadsSpec : ChangeSpec := { name := "pairsSpreads", fn := fun _ => fun
  | [d1, d2] => { results := [.lit (.bool true)], args := [d1, d2] }
  | _ => none }
def pairsSpreadsRow : OpenClaim := { program := "ythmhdbmpeepmaaa", sum := "a5979cb7c75898fb1c197d1ec5e3ea0cb3ffbf262ade330dc1bb061d272bb725", func := "congou/congoulaw08.PairsSpreads", spec := "pairsSpreads", unfollowed := true, recurses := true, plainKeys := false, apart := false }
def PairsSpreadsSaid : Prop := pairsSpreadsRow.holds Try.pinned (OpenSpec.ofChange pairsSpreadsSpec)

/-- ITS FALSE NEIGHBOUR: 'it returns false'. Refute it at one input. -/
def pairsSpreadsWrong : ChangeSpec := { name := "pairsSpreads", fn := fun _ => fun
  | [d1, d2] => { results := [.lit (.bool false)], args := [d1, d2] }
  | _ => none }
def PairsSpreadsWrongFalsely : Prop := pairsSpreadsRow.holds Try.pinned (OpenSpec.ofChange pairsSpreadsWrong)

/-- 'congoulaw08.PairsThrees': WHATEVER THE INPUT: true; the input reads as it did. -/
def pairsThreesSpec : ChangeSpec := { name := "pairsThrees", fn := fun _ => fun
  | [d1, d2] => { results := [.lit (.bool true)], args := [d1, d2] }
  | _ => none }
def pairsThreesRow : OpenClaim := { program := "ythmhdbmpeepmaaa", sum := "a5979cb7c75898fb1c197d1ec5e3ea0cb3ffbf262ade330dc1bb061d272bb725", func := "congou/congoulaw08.PairsThrees", spec := "pairsThrees", unfollowed := true, recurses := true, plainKeys := false, apart := false }
def PairsThreesSaid : Prop := pairsThreesRow.holds Try.pinned (OpenSpec.ofChange pairsThreesSpec)

/-- ITS FALSE NEIGHBOUR: 'it returns false'. Refute it at one input. -/
def pairsThreesWrong : ChangeSpec := { name := "pairsThrees", fn := fun _ => fun
  | [d1, d2] => { results := [.lit (.bool false)], args := [d1, d2] }
  | _ => none }
def PairsThreesWrongFalsely : Prop := pairsThreesRow.holds Try.pinned (OpenSpec.ofChange pairsThreesWrong)

/-- 'congoulaw08.PairsCosts': WHATEVER THE INPUT: true; the input reads as it did. -/
def pairsCostsSpec : ChangeSpec := { name := "pairsCosts", fn := fun _ => fun
  | [d1, d2, d3, d4] => { results := [.lit (.bool true)], args := [d1, d2, d3, d4] }
  | _ => none }
def pairsCostsRow : OpenClaim := { program := "ythmhdbmpeepmaaa", sum := "a5979cb7c75898fb1c197d1ec5e3ea0cb3ffbf262ade330dc1bb061d272bb725", func := "congou/congoulaw08.PairsCosts", spec := "pairsCosts", unfollowed := true, recurses := true, plainKeys := false, apart := false }
def PairsCostsSaid : Prop := pairsCostsRow.holds Try.pinned (OpenSpec.ofChange pairsCostsSpec)

/-- ITS FALSE NEIGHBOUR: 'it returns false'. Refute it at one input. -/
def pairsCostsWrong : ChangeSpec := { name := "pairsCosts", fn := fun _ => fun
  | [d1, d2, d3, d4] => { results := [.lit (.bool false)], args := [d1, d2, d3, d4] }
  | _ => none }
def PairsCostsWrongFalsely : Prop := pairsCostsRow.holds Try.pinned (OpenSpec.ofChange pairsCostsWrong)

/-- 'congoulaw08.PairsTogether': WHATEVER THE INPUT: true; the input reads as it did. -/
def pairsTogetherSpec : ChangeSpec := { name := "pairsTogether", fn := fun _ => fun
  | [d1, d2] => { results := [.lit (.bool true)], args := [d1, d2] }
  | _ => none }
def pairsTogetherRow : OpenClaim := { program := "ythmhdbmpeepmaaa", sum := "a5979cb7c75898fb1c197d1ec5e3ea0cb3ffbf262ade330dc1bb061d272bb725", func := "congou/congoulaw08.PairsTogether", spec := "pairsTogether", unfollowed := true, recurses := true, plainKeys := false, apart := false }
def PairsTogetherSaid : Prop := pairsTogetherRow.holds Try.pinned (OpenSpec.ofChange pairsTogetherSpec)

/-- ITS FALSE NEIGHBOUR: 'it returns false'. Refute it at one input. -/
def pairsTogetherWrong : ChangeSpec := { name := "pairsTogether", fn := fun _ => fun
  | [d1, d2] => { results := [.lit (.bool false)], args := [d1, d2] }
  | _ => none }
def PairsTogetherWrongFalsely : Prop := pairsTogetherRow.holds Try.pinned (OpenSpec.ofChange pairsTogetherWrong)

/-- 'congoulaw08.PairsRenamed': WHATEVER THE INPUT: true; the input reads as it did. -/
def pairsRenamedSpec : ChangeSpec := { name := "pairsRenamed", fn := fun _ => fun
  | [d1, d2, d3] => { results := [.lit (.bool true)], args := [d1, d2, d3] }
  | _ => none }
def pairsRenamedRow : OpenClaim := { program := "ythmhdbmpeepmaaa", sum := "a5979cb7c75898fb1c197d1ec5e3ea0cb3ffbf262ade330dc1bb061d272bb725", func := "congou/congoulaw08.PairsRenamed", spec := "pairsRenamed", unfollowed := true, recurses := true, plainKeys := false, apart := false }
def PairsRenamedSaid : Prop := pairsRenamedRow.holds Try.pinned (OpenSpec.ofChange pairsRenamedSpec)

/-- ITS FALSE NEIGHBOUR: 'it returns false'. Refute it at one input. -/
def pairsRenamedWrong : ChangeSpec := { name := "pairsRenamed", fn := fun _ => fun
  | [d1, d2, d3] => { results := [.lit (.bool false)], args := [d1, d2, d3] }
  | _ => none }
def PairsRenamedWrongFalsely : Prop := pairsRenamedRow.holds Try.pinned (OpenSpec.ofChange pairsRenamedWrong)

/-- 'congoulaw08.PairsMeet': WHATEVER THE INPUT: true; the input reads as it did. -/
def pairsMeetSpec : ChangeSpec := { name := "pairsMeet", fn := fun _ => fun
  | [d1, d2, d3] => { results := [.lit (.bool true)], args := [d1, d2, d3] }
  | _ => none }
def pairsMeetRow : OpenClaim := { program := "ythmhdbmpeepmaaa", sum := "a5979cb7c75898fb1c197d1ec5e3ea0cb3ffbf262ade330dc1bb061d272bb725", func := "congou/congoulaw08.PairsMeet", spec := "pairsMeet", unfollowed := true, recurses := true, plainKeys := false, apart := false }
def PairsMeetSaid : Prop := pairsMeetRow.holds Try.pinned (OpenSpec.ofChange pairsMeetSpec)

/-- ITS FALSE NEIGHBOUR: 'it returns false'. Refute it at one input. -/
def pairsMeetWrong : ChangeSpec := { name := "pairsMeet", fn := fun _ => fun
  | [d1, d2, d3] => { results := [.lit (.bool false)], args := [d1, d2, d3] }
  | _ => none }
def PairsMeetWrongFalsely : Prop := pairsMeetRow.holds Try.pinned (OpenSpec.ofChange pairsMeetWrong)

/-- 'congoulaw08.PairsRounds': WHATEVER THE INPUT: true; the input reads as it did. -/
def pairsRoundsSpec : ChangeSpec := { name := "pairsRounds", fn := fun _ => fun
  | [d1, d2] => { results := [.lit (.bool true)], args := [d1, d2] }
  | _ => none }
def pairsRoundsRow : OpenClaim := { program := "ythmhdbmpeepmaaa", sum := "a5979cb7c75898fb1c197d1ec5e3ea0cb3ffbf262ade330dc1bb061d272bb725", func := "congou/congoulaw08.PairsRounds", spec := "pairsRounds", unfollowed := true, recurses := true, plainKeys := false, apart := false }
def PairsRoundsSaid : Prop := pairsRoundsRow.holds Try.pinned (OpenSpec.ofChange pairsRoundsSpec)

/-- ITS FALSE NEIGHBOUR: 'it returns false'. Refute it at one input. -/
def pairsRoundsWrong : ChangeSpec := { name := "pairsRounds", fn := fun _ => fun
  | [d1, d2] => { results := [.lit (.bool false)], args := [d1, d2] }
  | _ => none }
def PairsRoundsWrongFalsely : Prop := pairsRoundsRow.holds Try.pinned (OpenSpec.ofChange pairsRoundsWrong)

/- THE SECOND FORM. 'bulk': how many values and letters a reading holds, each counted each time it is reached (what is shared counts as often as it is met; a slice's spare places count too). A statement '..UptoSaid' is the law's where the arguments, and the package variables that the reading takes, are together of bulk at most 1048576: NARROWER than '..Said'. Prove '..Said' where nothing that the law and all that it calls make is longer than what came in: it says more and counts as full. Else prove '..UptoSaid'. A law counts once. -/
mutual
def uptoBulk {H : Type} : DataW H → Nat
  | .lit (.string bytes) => bytes.length + 1
  | .lit _ => 1
  | .nil => 1
  | .ptr d => uptoBulk d + 1
  | .slice elems spare => uptoBulkAll elems + uptoBulkAll spare + 1
  | .agg parts => uptoBulkAll parts + 1
  | .iface _ d => uptoBulk d + 1
  | .map entries => uptoBulkEntries entries + 1
  | .held _ => 1
def uptoBulkAll {H : Type} : List (DataW H) → Nat
  | [] => 0
  | d :: r => uptoBulk d + uptoBulkAll r
def uptoBulkEntries {H : Type} : List (Lit × DataW H) → Nat
  | [] => 0
  | x :: r => uptoBulkEntry x + uptoBulkEntries r
def uptoBulkEntry {H : Type} : Lit × DataW H → Nat
  | (.string bytes, d) => bytes.length + uptoBulk d + 1
  | (_, d) => uptoBulk d + 1
 end
def uptoSmall : (H : Type) → List (DataW H) → Bool := fun _ ds => decide (uptoBulkAll ds ≤ 1048576)
def OpenSpec.upto (s : _root_.Go.ChangeSpec) : _root_.Go.OpenSpec := { _root_.Go.OpenSpec.ofChange s with cond := some uptoSmall }

/-- 'congoulaw08.PairsFirst', WHERE WHAT IT READS IS OF BULK AT MOST 1048576: true; the input reads as it did. -/
def pairsFirstUptoRow : OpenClaim := { program := "ythmhdbmpeepmaaa", sum := "a5979cb7c75898fb1c197d1ec5e3ea0cb3ffbf262ade330dc1bb061d272bb725", func := "congou/congoulaw08.PairsFirst", spec := "pairsFirst", unfollowed := true, recurses := true, plainKeys := false, apart := false, narrowed := true }
def PairsFirstUptoSaid : Prop := pairsFirstUptoRow.holds Try.pinned (OpenSpec.upto pairsFirstSpec)

/-- 'congoulaw08.PairsWelch', WHERE WHAT IT READS IS OF BULK AT MOST 1048576: true; the input reads as it did. -/
def pairsWelchUptoRow : OpenClaim := { program := "ythmhdbmpeepmaaa", sum := "a5979cb7c75898fb1c197d1ec5e3ea0cb3ffbf262ade330dc1bb061d272bb725", func := "congou/congoulaw08.PairsWelch", spec := "pairsWelch", unfollowed := true, recurses := true, plainKeys := false, apart := false, narrowed := true }
def PairsWelchUptoSaid : Prop := pairsWelchUptoRow.holds Try.pinned (OpenSpec.upto pairsWelchSpec)

/-- 'congoulaw08.PairsRows', WHERE WHAT IT READS IS OF BULK AT MOST 1048576: true; the input reads as it did. -/
def pairsRowsUptoRow : OpenClaim := { program := "ythmhdbmpeepmaaa", sum := "a5979cb7c75898fb1c197d1ec5e3ea0cb3ffbf262ade330dc1bb061d272bb725", func := "congou/congoulaw08.PairsRows", spec := "pairsRows", unfollowed := true, recurses := true, plainKeys := false, apart := false, narrowed := true }
def PairsRowsUptoSaid : Prop := pairsRowsUptoRow.holds Try.pinned (OpenSpec.upto pairsRowsSpec)

/-- 'congoulaw08.PairsWhen', WHERE WHAT IT READS IS OF BULK AT MOST 1048576: true; the input reads as it did. -/
def pairsWhenUptoRow : OpenClaim := { program := "ythmhdbmpeepmaaa", sum := "a5979cb7c75898fb1c197d1ec5e3ea0cb3ffbf262ade330dc1bb061d272bb725", func := "congou/congoulaw08.PairsWhen", spec := "pairsWhen", unfollowed := true, recurses := true, plainKeys := false, apart := false, narrowed := true }
def PairsWhenUptoSaid : Prop := pairsWhenUptoRow.holds Try.pinned (OpenSpec.upto pairsWhenSpec)

/-- 'congoulaw08.PairsDifferences', WHERE WHAT IT READS IS OF BULK AT MOST 1048576: true; the input reads as it did. -/
def pairsDifferencesUptoRow : OpenClaim := { program := "ythmhdbmpeepmaaa", sum := "a5979cb7c75898fb1c197d1ec5e3ea0cb3ffbf262ade330dc1bb061d272bb725", func := "congou/congoulaw08.PairsDifferences", spec := "pairsDifferences", unfollowed := true, recurses := true, plainKeys := false, apart := false, narrowed := true }
def PairsDifferencesUptoSaid : Prop := pairsDifferencesUptoRow.holds Try.pinned (OpenSpec.upto pairsDifferencesSpec)

/-- 'congoulaw08.PairsQuarters', WHERE WHAT IT READS IS OF BULK AT MOST 1048576: true; the input reads as it did. -/
def pairsQuartersUptoRow : OpenClaim := { program := "ythmhdbmpeepmaaa", sum := "a5979cb7c75898fb1c197d1ec5e3ea0cb3ffbf262ade330dc1bb061d272bb725", func := "congou/congoulaw08.PairsQuarters", spec := "pairsQuarters", unfollowed := true, recurses := true, plainKeys := false, apart := false, narrowed := true }
def PairsQuartersUptoSaid : Prop := pairsQuartersUptoRow.holds Try.pinned (OpenSpec.upto pairsQuartersSpec)

/-- 'congoulaw08.PairsSplits', WHERE WHAT IT READS IS OF BULK AT MOST 1048576: true; the input reads as it did. -/
def pairsSplitsUptoRow : OpenClaim := { program := "ythmhdbmpeepmaaa", sum := "a5979cb7c75898fb1c197d1ec5e3ea0cb3ffbf262ade330dc1bb061d272bb725", func := "congou/congoulaw08.PairsSplits", spec := "pairsSplits", unfollowed := true, recurses := true, plainKeys := false, apart := false, narrowed := true }
def PairsSplitsUptoSaid : Prop := pairsSplitsUptoRow.holds Try.pinned (OpenSpec.upto pairsSplitsSpec)

/-- 'congoulaw08.PairsPins', WHERE WHAT IT READS IS OF BULK AT MOST 1048576: true; the input reads as it did. -/
def pairsPinsUptoRow : OpenClaim := { program := "ythmhdbmpeepmaaa", sum := "a5979cb7c75898fb1c197d1ec5e3ea0cb3ffbf262ade330dc1bb061d272bb725", func := "congou/congoulaw08.PairsPins", spec := "pairsPins", unfollowed := true, recurses := true, plainKeys := false, apart := false, narrowed := true }
def PairsPinsUptoSaid : Prop := pairsPinsUptoRow.holds Try.pinned (OpenSpec.upto pairsPinsSpec)

/-- 'congoulaw08.PairsTurned', WHERE WHAT IT READS IS OF BULK AT MOST 1048576: true; the input reads as it did. -/
def pairsTurnedUptoRow : OpenClaim := { program := "ythmhdbmpeepmaaa", sum := "a5979cb7c75898fb1c197d1ec5e3ea0cb3ffbf262ade330dc1bb061d272bb725", func := "congou/congoulaw08.PairsTurned", spec := "pairsTurned", unfollowed := true, recurses := true, plainKeys := false, apart := false, narrowed := true }
def PairsTurnedUptoSaid : Prop := pairsTurnedUptoRow.holds Try.pinned (OpenSpec.upto pairsTurnedSpec)

/-- 'congoulaw08.PairsSpread', WHERE WHAT IT READS IS OF BULK AT MOST 1048576: true; the input reads as it did. -/
def pairsSpreadUptoRow : OpenClaim := { program := "ythmhdbmpeepmaaa", sum := "a5979cb7c75898fb1c197d1ec5e3ea0cb3ffbf262ade330dc1bb061d272bb725", func := "congou/congoulaw08.PairsSpread", spec := "pairsSpread", unfollowed := true, recurses := true, plainKeys := false, apart := false, narrowed := true }
def PairsSpreadUptoSaid : Prop := pairsSpreadUptoRow.holds Try.pinned (OpenSpec.upto pairsSpreadSpec)

/-- 'congoulaw08.PairsSpreads', WHERE WHAT IT READS IS OF BULK AT MOST 1048576: true; the input reads as it did. -/
def pairsSpreadsUptoRow : OpenClaim := { program := "ythmhdbmpeepmaaa", sum := "a5979cb7c75898fb1c197d1ec5e3ea0cb3ffbf262ade330dc1bb061d272bb725", func := "congou/congoulaw08.PairsSpreads", spec := "pairsSpreads", unfollowed := true, recurses := true, plainKeys := false, apart := false, narrowed := true }
def PairsSpreadsUptoSaid : Prop := pairsSpreadsUptoRow.holds Try.pinned (OpenSpec.upto pairsSpreadsSpec)

/-- 'congoulaw08.PairsThrees', WHERE WHAT IT READS IS OF BULK AT MOST 1048576: true; the input reads as it did. -/
def pairsThreesUptoRow : OpenClaim := { program := "ythmhdbmpeepmaaa", sum := "a5979cb7c75898fb1c197d1ec5e3ea0cb3ffbf262ade330dc1bb061d272bb725", func := "congou/congoulaw08.PairsThrees", spec := "pairsThrees", unfollowed := true, recurses := true, plainKeys := false, apart := false, narrowed := true }
def PairsThreesUptoSaid : Prop := pairsThreesUptoRow.holds Try.pinned (OpenSpec.upto pairsThreesSpec)

/-- 'congoulaw08.PairsCosts', WHERE WHAT IT READS IS OF BULK AT MOST 1048576: true; the input reads as it did. -/
def pairsCostsUptoRow : OpenClaim := { program := "ythmhdbmpeepmaaa", sum := "a5979cb7c75898fb1c197d1ec5e3ea0cb3ffbf262ade330dc1bb061d272bb725", func := "congou/congoulaw08.PairsCosts", spec := "pairsCosts", unfollowed := true, recurses := true, plainKeys := false, apart := false, narrowed := true }
def PairsCostsUptoSaid : Prop := pairsCostsUptoRow.holds Try.pinned (OpenSpec.upto pairsCostsSpec)

/-- 'congoulaw08.PairsTogether', WHERE WHAT IT READS IS OF BULK AT MOST 1048576: true; the input reads as it did. -/
def pairsTogetherUptoRow : OpenClaim := { program := "ythmhdbmpeepmaaa", sum := "a5979cb7c75898fb1c197d1ec5e3ea0cb3ffbf262ade330dc1bb061d272bb725", func := "congou/congoulaw08.PairsTogether", spec := "pairsTogether", unfollowed := true, recurses := true, plainKeys := false, apart := false, narrowed := true }
def PairsTogetherUptoSaid : Prop := pairsTogetherUptoRow.holds Try.pinned (OpenSpec.upto pairsTogetherSpec)

/-- 'congoulaw08.PairsRenamed', WHERE WHAT IT READS IS OF BULK AT MOST 1048576: true; the input reads as it did. -/
def pairsRenamedUptoRow : OpenClaim := { program := "ythmhdbmpeepmaaa", sum := "a5979cb7c75898fb1c197d1ec5e3ea0cb3ffbf262ade330dc1bb061d272bb725", func := "congou/congoulaw08.PairsRenamed", spec := "pairsRenamed", unfollowed := true, recurses := true, plainKeys := false, apart := false, narrowed := true }
def PairsRenamedUptoSaid : Prop := pairsRenamedUptoRow.holds Try.pinned (OpenSpec.upto pairsRenamedSpec)

/-- 'congoulaw08.PairsMeet', WHERE WHAT IT READS IS OF BULK AT MOST 1048576: true; the input reads as it did. -/
def pairsMeetUptoRow : OpenClaim := { program := "ythmhdbmpeepmaaa", sum := "a5979cb7c75898fb1c197d1ec5e3ea0cb3ffbf262ade330dc1bb061d272bb725", func := "congou/congoulaw08.PairsMeet", spec := "pairsMeet", unfollowed := true, recurses := true, plainKeys := false, apart := false, narrowed := true }
def PairsMeetUptoSaid : Prop := pairsMeetUptoRow.holds Try.pinned (OpenSpec.upto pairsMeetSpec)

/-- 'congoulaw08.PairsRounds', WHERE WHAT IT READS IS OF BULK AT MOST 1048576: true; the input reads as it did. -/
def pairsRoundsUptoRow : OpenClaim := { program := "ythmhdbmpeepmaaa", sum := "a5979cb7c75898fb1c197d1ec5e3ea0cb3ffbf262ade330dc1bb061d272bb725", func := "congou/congoulaw08.PairsRounds", spec := "pairsRounds", unfollowed := true, recurses := true, plainKeys := false, apart := false, narrowed := true }
def PairsRoundsUptoSaid : Prop := pairsRoundsUptoRow.holds Try.pinned (OpenSpec.upto pairsRoundsSpec)

end Rows
end Go.Proofs.Ythmhdbmpeepmaaa
