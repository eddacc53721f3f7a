/- PRINTED BY A PROGRAM OF OURS: what each function that 'CutsWithin' reaches computes on the abstract heap, and that the translated code does just that. Nothing is asked of the input. -/
import Derived.Test.YteefkljbmjjncaaLB
import Derived.Test.YteefkljbmjjncaaProg
import Derived.KernelRfl
set_option linter.unusedVariables false
set_option linter.unusedSimpArgs false
set_option maxRecDepth 100000
set_option maxHeartbeats 4000000
namespace Go.Lt.P2
open Go Go.Lt Go.Proofs
theorem mixed : Try.prog.follows .mixedOrders = true := by kernel_rfl
theorem ty3 : TyIs Try.prog 3 1 8 (.int .i64 0) := by unfold TyIs; kernel_rfl
theorem ty4 : TyIs Try.prog 4 1 1 (.bool false) := by unfold TyIs; kernel_rfl
theorem ty24 : TyIs Try.prog 24 2 16 (.agg #[.int .i64 0, .int .i64 0]) := by unfold TyIs; kernel_rfl
theorem ty32 : TyIs Try.prog 32 4 32 (.agg #[.int .i64 0, .int .i64 0, .int .i64 0, .int .i64 0]) := by unfold TyIs; kernel_rfl
theorem ty43 : TyIs Try.prog 43 2 16 (.agg #[.int .i64 0, .int .i64 0]) := by unfold TyIs; kernel_rfl
theorem ty46 : TyIs Try.prog 46 3 24 (.agg #[.int .i64 0, .int .i64 0, .int .i64 0]) := by unfold TyIs; kernel_rfl
theorem ty47 : TyIs Try.prog 47 3 24 (.agg #[.int .i64 0, .int .i64 0, .int .i64 0]) := by unfold TyIs; kernel_rfl
theorem ty105 : TyIs Try.prog 105 10 80 (.agg #[.int .i64 0, .int .i64 0, .int .i64 0, .int .i64 0, .int .i64 0, .int .i64 0, .int .i64 0, .int .i64 0, .int .i64 0, .int .i64 0]) := by unfold TyIs; kernel_rfl
theorem ty117 : TyIs Try.prog 117 1 8 (.nilFunc) := by unfold TyIs; kernel_rfl
theorem eg43 : Try.prog.eqGuardType Try.prog.depth 43 = false := by kernel_rfl
theorem sz24 : (Try.prog.info? 24).map (·.size) = some 2 := by kernel_rfl
theorem sz32 : (Try.prog.info? 32).map (·.size) = some 4 := by kernel_rfl
theorem sz43 : (Try.prog.info? 43).map (·.size) = some 2 := by kernel_rfl
theorem pl24 : ∀ w, ((match Try.prog.underlying 24 with | some (.struct fs) => fs | _ => #[]).mapM (fun (f : Field) => do Pure.pure (f.offset, ← sizeOf f.type)) : Sem (Array (Nat × Nat))).run Try.prog w = .ok #[(0, 1), (1, 1)] w := by
  intro w
  rw [Try.underlying24]
  simp [run_size ty3]
theorem pl32 : ∀ w, ((match Try.prog.underlying 32 with | some (.struct fs) => fs | _ => #[]).mapM (fun (f : Field) => do Pure.pure (f.offset, ← sizeOf f.type)) : Sem (Array (Nat × Nat))).run Try.prog w = .ok #[(0, 2), (2, 2)] w := by
  intro w
  rw [Try.underlying32]
  simp [run_size ty24]
theorem pl47 : ∀ w, ((match Try.prog.underlying 47 with | some (.struct fs) => fs | _ => #[]).mapM (fun (f : Field) => do Pure.pure (f.offset, ← sizeOf f.type)) : Sem (Array (Nat × Nat))).run Try.prog w = .ok #[(0, 1), (1, 1), (2, 1)] w := by
  intro w
  rw [Try.underlying47]
  simp [run_size ty3]
theorem pl105 : ∀ w, ((match Try.prog.underlying 105 with | some (.struct fs) => fs | _ => #[]).mapM (fun (f : Field) => do Pure.pure (f.offset, ← sizeOf f.type)) : Sem (Array (Nat × Nat))).run Try.prog w = .ok #[(0, 4), (4, 3), (7, 3)] w := by
  intro w
  rw [Try.underlying105]
  simp [run_size ty32, run_size ty47]
end Go.Lt.P2
