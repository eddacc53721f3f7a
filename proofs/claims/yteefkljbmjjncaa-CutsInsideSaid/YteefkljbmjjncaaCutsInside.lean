/-
  WHAT IS PROVED HERE: 'cutsInside.proved': the statement 'Rows.CutsInsideSaid': for every input the law returns true, and each argument reads afterwards as it read before. No condition.
-/
import Derived.Test.YteefkljbmjjncaaRows
import Derived.Test.YteefkljbmjjncaaLB
import Derived.Test.YteefkljbmjjncaaU7X7
namespace Go.Proofs.Yteefkljbmjjncaa.cutsInside
open Go.ChangeShapes Go.WideShapes Go.ChangeAt Go.RowKit
set_option linter.unusedVariables false

theorem own : ownKnob Try.prog.godebug = none := by kernel_rfl
theorem laidOut : laidOutB Try.prog = true := by kernel_rfl

set_option maxRecDepth 100000 in
theorem lifted (os : Os) (started : os.Started) (H : Type) (enc : TypeId × Value → H) :
    ReturnsInHanded {} Try.checked os 7 .any (Rows.cutsInsideSpec.pre6 enc Try.prog Try.f7 Rows.cutsInsideRow.domain false) (Rows.cutsInsideSpec.post enc Try.prog Try.f7 false true false false) := by
  refine returnsInHanded_of_change (C := Try.checked) own started (by kernel_rfl) Try.func7
    (ChangeSpec.witness6 (enc := enc) (C := Try.checked) false ⟨#[], #[.slice none 0 0, .agg #[.int .i64 0, .int .i64 0, .int .i64 0, .int .i64 0], .slice none 0 0, .int .i64 0], []⟩ 8 (by kernel_rfl) (by kernel_rfl) (by kernel_rfl) (by kernel_rfl)) ?_
  intro W base args ds gs before hval hW hcnd _
  exact Go.Lt.law_contract (n := 9) (ss := [.sl (.pair (.int .i64) (.pair (.int .i64) (.pair (.int .i64) .unit))), .pair (.pair (.int .i64) (.pair (.int .i64) .unit)) (.pair (.pair (.int .i64) (.pair (.int .i64) .unit)) .unit), .sl (.pair (.int .i64) (.pair (.int .i64) .unit)), .int .i64]) rfl (fun ds h => by
    match ds, h with
    | [_, _, _, _], _ => rfl) (by kernel_rfl) Try.underlying4 laidOut (by kernel_rfl) (by kernel_rfl) Go.Lt.P2.lawCall7 hval hW

theorem over : Rows.cutsInsideRow.holds Try.pinned (OpenSpec.ofChange Rows.cutsInsideSpec) :=
  OpenClaim.holds_of_wide 7 Try.f7 rfl rfl rfl rfl rfl rfl rfl ⟨rfl, rfl, rfl, rfl, rfl⟩ rfl rfl rfl rfl rfl (by kernel_rfl) Try.func7 (by kernel_rfl)
    (of_decide_eq_true (by kernel_rfl)) (by unfold Func.isWrapper; first | (rw [if_pos (by decide +kernel)]; kernel_rfl) | (rw [if_neg (by decide +kernel)]; exact ⟨rfl, rfl⟩))
    (fun os started H enc _ => lifted os started H enc)

theorem proved : Rows.CutsInsideSaid := over
#print axioms proved
end Go.Proofs.Yteefkljbmjjncaa.cutsInside
