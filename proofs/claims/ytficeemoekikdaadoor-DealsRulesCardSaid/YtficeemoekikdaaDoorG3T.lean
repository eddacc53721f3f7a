/- PRINTED BY A PROGRAM OF OURS: what each function that 'DealsRules' reaches computes on the abstract heap, and that the translated code does just that. Nothing is asked of the input. -/
import Derived.Test.YtficeemoekikdaaDoorLB
import Derived.Test.YtficeemoekikdaaDoorProg
import Derived.KernelRfl
set_option linter.unusedVariables false
set_option linter.unusedSimpArgs false
set_option maxRecDepth 100000
set_option maxHeartbeats 4000000
namespace Go.Lt.P5
open Go Go.Lt Go.Proofs
theorem mixed : Tryd.prog.follows .mixedOrders = true := by kernel_rfl
theorem ty3 : TyIs Tryd.prog 3 1 8 (.int .i64 0) := by unfold TyIs; kernel_rfl
theorem ty22 : TyIs Tryd.prog 22 1 24 (.slice none 0 0) := by unfold TyIs; kernel_rfl
theorem ty23 : TyIs Tryd.prog 23 2 16 (.agg #[.int .i64 0, .int .i64 0]) := by unfold TyIs; kernel_rfl
theorem ty25 : TyIs Tryd.prog 25 2 16 (.agg #[.int .i64 0, .int .i64 0]) := by unfold TyIs; kernel_rfl
theorem ty27 : TyIs Tryd.prog 27 4 32 (.agg #[.int .i64 0, .int .i64 0, .int .i64 0, .int .i64 0]) := by unfold TyIs; kernel_rfl
theorem ty36 : TyIs Tryd.prog 36 4 32 (.agg #[.int .i64 0, .int .i64 0, .int .i64 0, .int .i64 0]) := by unfold TyIs; kernel_rfl
theorem ty49 : TyIs Tryd.prog 49 3 24 (.agg #[.int .i64 0, .int .i64 0, .int .i64 0]) := by unfold TyIs; kernel_rfl
theorem ty77 : TyIs Tryd.prog 77 3 24 (.agg #[.int .i64 0, .int .i64 0, .int .i64 0]) := by unfold TyIs; kernel_rfl
theorem ty98 : TyIs Tryd.prog 98 1 8 (.int .u64 0) := by unfold TyIs; kernel_rfl
theorem eg23 : Tryd.prog.eqGuardType Tryd.prog.depth 23 = false := by kernel_rfl
theorem eg27 : Tryd.prog.eqGuardType Tryd.prog.depth 27 = false := by kernel_rfl
theorem eg36 : Tryd.prog.eqGuardType Tryd.prog.depth 36 = false := by kernel_rfl
theorem sih25 : Tryd.prog.stoodInHeld 25 = false := by kernel_rfl
theorem sih27 : Tryd.prog.stoodInHeld 27 = false := by kernel_rfl
theorem sih36 : Tryd.prog.stoodInHeld 36 = false := by kernel_rfl
theorem sz25 : (Tryd.prog.info? 25).map (·.size) = some 2 := by kernel_rfl
theorem sz27 : (Tryd.prog.info? 27).map (·.size) = some 4 := by kernel_rfl
theorem sz36 : (Tryd.prog.info? 36).map (·.size) = some 4 := by kernel_rfl
theorem pl25 : ∀ w, ((match Tryd.prog.underlying 25 with | some (.struct fs) => fs | _ => #[]).mapM (fun (f : Field) => do Pure.pure (f.offset, ← sizeOf f.type)) : Sem (Array (Nat × Nat))).run Tryd.prog w = .ok #[(0, 1), (1, 1)] w := by
  intro w
  rw [Tryd.underlying25]
  simp [run_size ty3]
theorem pl27 : ∀ w, ((match Tryd.prog.underlying 27 with | some (.struct fs) => fs | _ => #[]).mapM (fun (f : Field) => do Pure.pure (f.offset, ← sizeOf f.type)) : Sem (Array (Nat × Nat))).run Tryd.prog w = .ok #[(0, 2), (2, 2)] w := by
  intro w
  rw [Tryd.underlying27]
  simp [run_size ty25]
theorem pl36 : ∀ w, ((match Tryd.prog.underlying 36 with | some (.struct fs) => fs | _ => #[]).mapM (fun (f : Field) => do Pure.pure (f.offset, ← sizeOf f.type)) : Sem (Array (Nat × Nat))).run Tryd.prog w = .ok #[(0, 2), (2, 2)] w := by
  intro w
  rw [Tryd.underlying36]
  simp [run_size ty25]
theorem pl49 : ∀ w, ((match Tryd.prog.underlying 49 with | some (.struct fs) => fs | _ => #[]).mapM (fun (f : Field) => do Pure.pure (f.offset, ← sizeOf f.type)) : Sem (Array (Nat × Nat))).run Tryd.prog w = .ok #[(0, 1), (1, 1), (2, 1)] w := by
  intro w
  rw [Tryd.underlying49]
  simp [run_size ty3]
end Go.Lt.P5
