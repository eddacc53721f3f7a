/- THE LIBRARY OF THESE PROOFS, A PART: an abstract heap, and that the model's steps keep to it. Nothing is asked of the input. -/
import Derived.Test.YthmhdbmpeepmaaaLBits
namespace Go.Lt
def cntK : Nat → (Nat → Nat) → Nat
  | 0, _ => 0
  | k + 1, g => Nat.add (cntK k g) (g (k + 1))
def tb (a i : Nat) : Bool := Nat.beq (Nat.land (Nat.shiftRight a i) 1) 1
def cnt (n s : Nat) : Nat → Nat → Nat → Nat → Nat
  | 0, _, _, _ => 0
  | f + 1, i, o, u =>
    bif Nat.ble (2 * n) i then 1
    else bif tb o i then cnt n s f (i + 1) o u
    else cntK n fun k => bif tb u k then 0 else bif Nat.ble (2 * n) (i + k + s - 1) then 0 else bif tb o (i + k + s - 1) then 0 else
      cnt n s f (i + 1) (Nat.lor (Nat.lor o (Nat.shiftLeft 1 i)) (Nat.shiftLeft 1 (i + k + s - 1))) (Nat.lor u (Nat.shiftLeft 1 k))
end Go.Lt
