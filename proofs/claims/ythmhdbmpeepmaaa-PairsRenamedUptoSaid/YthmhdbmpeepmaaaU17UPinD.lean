/- PLAIN LAWS OF WHAT IS COMPUTED, for the statement 'PairsRenamed'. Nothing is asked of the input. -/
import Derived.Test.YthmhdbmpeepmaaaU17UList
set_option linter.unusedVariables false
set_option linter.unusedSimpArgs false
set_option linter.unusedSimpArgs false
namespace Go.Lt.P8
open Go Go.Lt Go.Proofs
def pinI (x : Int) (i : Nat) : List Int → Nat → List (Int × Int) → Option (List (Int × Int))
  | [], _, S => some S
  | y :: ys, j, S => if x = y ∨ ((i : Int) - j, x - y) ∈ S then none else pinI x i ys (j + 1) (S ++ [((i : Int) - j, x - y)])
def pinO (l : List Int) : List Int → Nat → List (Int × Int) → Bool
  | [], _, _ => true
  | x :: xs, i, S => if x < 0 ∨ (l.length : Int) ≤ x then false else match pinI x i (l.take i) 0 S with
    | none => false
    | some S' => pinO l xs (i + 1) S'
def pinsF (l : List Int) : Bool := pinO l l 0 []
end Go.Lt.P8
