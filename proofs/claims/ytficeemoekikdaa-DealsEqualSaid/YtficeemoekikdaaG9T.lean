/- PRINTED BY A PROGRAM OF OURS: what each function that 'DealsEqual' reaches computes on the abstract heap, and that the translated code does just that. Nothing is asked of the input. -/
import Derived.Test.YtficeemoekikdaaLB
import Derived.Test.YtficeemoekikdaaProg
import Derived.KernelRfl
set_option linter.unusedVariables false
set_option linter.unusedSimpArgs false
set_option maxRecDepth 100000
set_option maxHeartbeats 4000000
namespace Go.Lt.P5
open Go Go.Lt Go.Proofs
theorem mixed : Try.prog.follows .mixedOrders = true := by kernel_rfl
theorem ty3 : TyIs Try.prog 3 1 8 (.int .i64 0) := by unfold TyIs; kernel_rfl
theorem ty23 : TyIs Try.prog 23 2 16 (.agg #[.int .i64 0, .int .i64 0]) := by unfold TyIs; kernel_rfl
theorem ty35 : TyIs Try.prog 35 1 24 (.slice none 0 0) := by unfold TyIs; kernel_rfl
theorem ty41 : TyIs Try.prog 41 4 32 (.agg #[.int .i64 0, .int .i64 0, .int .i64 0, .int .i64 0]) := by unfold TyIs; kernel_rfl
theorem ty49 : TyIs Try.prog 49 2 16 (.agg #[.int .i64 0, .int .i64 0]) := by unfold TyIs; kernel_rfl
theorem ty55 : TyIs Try.prog 55 12 96 (.agg #[.int .i64 0, .int .i64 0, .int .i64 0, .int .i64 0, .int .i64 0, .int .i64 0, .int .i64 0, .int .i64 0, .int .i64 0, .int .i64 0, .int .i64 0, .int .i64 0]) := by unfold TyIs; kernel_rfl
theorem ty78 : TyIs Try.prog 78 3 24 (.agg #[.int .i64 0, .int .i64 0, .int .i64 0]) := by unfold TyIs; kernel_rfl
theorem ty125 : TyIs Try.prog 125 1 8 (.int .u64 0) := by unfold TyIs; kernel_rfl
theorem eg23 : Try.prog.eqGuardType Try.prog.depth 23 = false := by kernel_rfl
theorem eg41 : Try.prog.eqGuardType Try.prog.depth 41 = false := by kernel_rfl
theorem eg49 : Try.prog.eqGuardType Try.prog.depth 49 = false := by kernel_rfl
theorem sih23 : Try.prog.stoodInHeld 23 = false := by kernel_rfl
theorem sih41 : Try.prog.stoodInHeld 41 = false := by kernel_rfl
theorem sz23 : (Try.prog.info? 23).map (·.size) = some 2 := by kernel_rfl
theorem sz41 : (Try.prog.info? 41).map (·.size) = some 4 := by kernel_rfl
theorem sz55 : (Try.prog.info? 55).map (·.size) = some 12 := by kernel_rfl
theorem pl23 : ∀ w, ((match Try.prog.underlying 23 with | some (.struct fs) => fs | _ => #[]).mapM (fun (f : Field) => do Pure.pure (f.offset, ← sizeOf f.type)) : Sem (Array (Nat × Nat))).run Try.prog w = .ok #[(0, 1), (1, 1)] w := by
  intro w
  rw [Try.underlying23]
  simp [run_size ty3]
theorem pl41 : ∀ w, ((match Try.prog.underlying 41 with | some (.struct fs) => fs | _ => #[]).mapM (fun (f : Field) => do Pure.pure (f.offset, ← sizeOf f.type)) : Sem (Array (Nat × Nat))).run Try.prog w = .ok #[(0, 2), (2, 2)] w := by
  intro w
  rw [Try.underlying41]
  simp [run_size ty23]
theorem pl78 : ∀ w, ((match Try.prog.underlying 78 with | some (.struct fs) => fs | _ => #[]).mapM (fun (f : Field) => do Pure.pure (f.offset, ← sizeOf f.type)) : Sem (Array (Nat × Nat))).run Try.prog w = .ok #[(0, 1), (1, 1), (2, 1)] w := by
  intro w
  rw [Try.underlying78]
  simp [run_size ty3]
end Go.Lt.P5
