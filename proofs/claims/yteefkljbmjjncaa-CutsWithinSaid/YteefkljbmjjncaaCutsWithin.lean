/-
  WHAT IS PROVED HERE: 'cutsWithin.proved': the statement 'Rows.CutsWithinSaid': for every input the law returns true, and each argument reads afterwards as it read before. No condition.
-/
import Derived.Test.YteefkljbmjjncaaRows
import Derived.Test.YteefkljbmjjncaaLB
import Derived.Test.YteefkljbmjjncaaU9X9
namespace Go.Proofs.Yteefkljbmjjncaa.cutsWithin
open Go.ChangeShapes Go.WideShapes Go.ChangeAt Go.RowKit
set_option linter.unusedVariables false

theorem own : ownKnob Try.prog.godebug = none := by kernel_rfl
theorem laidOut : laidOutB Try.prog = true := by kernel_rfl

set_option maxRecDepth 100000 in
theorem lifted (os : Os) (started : os.Started) (H : Type) (enc : TypeId × Value → H) :
    ReturnsInHanded {} Try.checked os 9 .any (Rows.cutsWithinSpec.pre6 enc Try.prog Try.f9 Rows.cutsWithinRow.domain false) (Rows.cutsWithinSpec.post enc Try.prog Try.f9 false true false false) := by
  refine returnsInHanded_of_change (C := Try.checked) own started (by kernel_rfl) Try.func9
    (ChangeSpec.witness6 (enc := enc) (C := Try.checked) false ⟨#[], #[.slice none 0 0, .int .i64 0, .int .i64 0], []⟩ 8 (by kernel_rfl) (by kernel_rfl) (by kernel_rfl) (by kernel_rfl)) ?_
  intro W base args ds gs before hval hW hcnd _
  exact Go.Lt.law_contract (n := 9) (ss := [.sl (.pair (.int .i64) (.pair (.int .i64) (.pair (.int .i64) .unit))), .int .i64, .int .i64]) rfl (fun ds h => by
    match ds, h with
    | [_, _, _], _ => rfl) (by kernel_rfl) Try.underlying4 laidOut (by kernel_rfl) (by kernel_rfl) Go.Lt.P2.lawCall9 hval hW

theorem over : Rows.cutsWithinRow.holds Try.pinned (OpenSpec.ofChange Rows.cutsWithinSpec) :=
  OpenClaim.holds_of_wide 9 Try.f9 rfl rfl rfl rfl rfl rfl rfl ⟨rfl, rfl, rfl, rfl, rfl⟩ rfl rfl rfl rfl rfl (by kernel_rfl) Try.func9 (by kernel_rfl)
    (of_decide_eq_true (by kernel_rfl)) (by unfold Func.isWrapper; first | (rw [if_pos (by decide +kernel)]; kernel_rfl) | (rw [if_neg (by decide +kernel)]; exact ⟨rfl, rfl⟩))
    (fun os started H enc _ => lifted os started H enc)

theorem proved : Rows.CutsWithinSaid := over
#print axioms proved
end Go.Proofs.Yteefkljbmjjncaa.cutsWithin
