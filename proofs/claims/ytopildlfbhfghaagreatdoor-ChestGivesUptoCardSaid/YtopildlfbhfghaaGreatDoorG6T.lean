/- PRINTED BY A PROGRAM OF OURS: what each function that 'ChestGives' reaches computes on the abstract heap, and that the translated code does just that. Nothing is asked of the input. -/
import Derived.Test.YtopildlfbhfghaaGreatDoorLB
import Derived.Test.YtopildlfbhfghaaGreatDoorProg
import Derived.KernelRfl
set_option linter.unusedVariables false
set_option linter.unusedSimpArgs false
set_option maxRecDepth 100000
set_option maxHeartbeats 4000000
namespace Go.Lt.P10
open Go Go.Lt Go.Proofs
theorem mixed : Tryz.prog.follows .mixedOrders = true := by kernel_rfl
theorem ty3 : TyIs Tryz.prog 3 1 8 (.int .i64 0) := by unfold TyIs; kernel_rfl
theorem ty5 : TyIs Tryz.prog 5 1 1 (.int .u8 0) := by unfold TyIs; kernel_rfl
theorem ty9 : TyIs Tryz.prog 9 1 16 (.string ⟨#[]⟩) := by unfold TyIs; kernel_rfl
theorem ty22 : TyIs Tryz.prog 22 1 24 (.slice none 0 0) := by unfold TyIs; kernel_rfl
theorem ty25 : TyIs Tryz.prog 25 1 24 (.slice none 0 0) := by unfold TyIs; kernel_rfl
theorem ty27 : TyIs Tryz.prog 27 1 24 (.slice none 0 0) := by unfold TyIs; kernel_rfl
theorem ty33 : TyIs Tryz.prog 33 2 16 (.agg #[.int .i64 0, .int .i64 0]) := by unfold TyIs; kernel_rfl
theorem ty53 : TyIs Tryz.prog 53 3 24 (.agg #[.int .i64 0, .int .i64 0, .int .i64 0]) := by unfold TyIs; kernel_rfl
theorem ty101 : TyIs Tryz.prog 101 2 16 (.agg #[.int .i64 0, .int .i64 0]) := by unfold TyIs; kernel_rfl
theorem ty102 : TyIs Tryz.prog 102 1 24 (.slice none 0 0) := by unfold TyIs; kernel_rfl
theorem ty105 : TyIs Tryz.prog 105 2 48 (.agg #[.slice none 0 0, .slice none 0 0]) := by unfold TyIs; kernel_rfl
theorem ty109 : TyIs Tryz.prog 109 1 8 (.pointer none) := by unfold TyIs; kernel_rfl
theorem ty116 : TyIs Tryz.prog 116 1 24 (.slice none 0 0) := by unfold TyIs; kernel_rfl
theorem ty118 : TyIs Tryz.prog 118 2 32 (.agg #[.slice none 0 0, .int .i64 0]) := by unfold TyIs; kernel_rfl
theorem ty120 : TyIs Tryz.prog 120 3 32 (.agg #[.string ⟨#[]⟩, .int .i64 0, .pointer none]) := by unfold TyIs; kernel_rfl
theorem ty123 : TyIs Tryz.prog 123 16 128 (.agg #[.int .i64 0, .int .i64 0, .int .i64 0, .int .i64 0, .int .i64 0, .int .i64 0, .int .i64 0, .int .i64 0, .int .i64 0, .int .i64 0, .int .i64 0, .int .i64 0, .int .i64 0, .int .i64 0, .int .i64 0, .int .i64 0]) := by unfold TyIs; kernel_rfl
theorem ty133 : TyIs Tryz.prog 133 4 40 (.agg #[.int .i64 0, .int .i64 0, .int .i64 0, .string ⟨#[]⟩]) := by unfold TyIs; kernel_rfl
theorem ty147 : TyIs Tryz.prog 147 1 24 (.slice none 0 0) := by unfold TyIs; kernel_rfl
theorem ty148 : TyIs Tryz.prog 148 4 32 (.agg #[.int .i64 0, .int .i64 0, .int .i64 0, .int .i64 0]) := by unfold TyIs; kernel_rfl
theorem ty150 : TyIs Tryz.prog 150 7 104 (.agg #[.slice none 0 0, .slice none 0 0, .int .i64 0, .int .i64 0, .int .i64 0, .int .i64 0, .slice none 0 0]) := by unfold TyIs; kernel_rfl
theorem ty160 : TyIs Tryz.prog 160 1 8 (.nilFunc) := by unfold TyIs; kernel_rfl
theorem ty167 : TyIs Tryz.prog 167 2 48 (.agg #[.slice none 0 0, .slice none 0 0]) := by unfold TyIs; kernel_rfl
theorem ty184 : TyIs Tryz.prog 184 2 32 (.agg #[.pointer none, .slice none 0 0]) := by unfold TyIs; kernel_rfl
theorem ty186 : TyIs Tryz.prog 186 2 24 (.agg #[.string ⟨#[]⟩, .int .i64 0]) := by unfold TyIs; kernel_rfl
theorem ext192 : ExtOk Tryz.prog 192 Extern.BytealgCount.count := ⟨Tryz.f192, Tryz.func192, by kernel_rfl, by kernel_rfl, by kernel_rfl, by kernel_rfl⟩
theorem ext308 : ExtOk Tryz.prog 308 Extern.BytealgIndexByte.indexByte := ⟨Tryz.f308, Tryz.func308, by kernel_rfl, by kernel_rfl, by kernel_rfl, by kernel_rfl⟩
theorem eg101 : Tryz.prog.eqGuardType Tryz.prog.depth 101 = false := by kernel_rfl
theorem sz33 : (Tryz.prog.info? 33).map (·.size) = some 2 := by kernel_rfl
theorem sz105 : (Tryz.prog.info? 105).map (·.size) = some 2 := by kernel_rfl
theorem sz123 : (Tryz.prog.info? 123).map (·.size) = some 16 := by kernel_rfl
theorem sz167 : (Tryz.prog.info? 167).map (·.size) = some 2 := by kernel_rfl
theorem pl33 : ∀ w, ((match Tryz.prog.underlying 33 with | some (.struct fs) => fs | _ => #[]).mapM (fun (f : Field) => do Pure.pure (f.offset, ← sizeOf f.type)) : Sem (Array (Nat × Nat))).run Tryz.prog w = .ok #[(0, 1), (1, 1)] w := by
  intro w
  rw [Tryz.underlying33]
  simp [run_size ty3]
theorem pl53 : ∀ w, ((match Tryz.prog.underlying 53 with | some (.struct fs) => fs | _ => #[]).mapM (fun (f : Field) => do Pure.pure (f.offset, ← sizeOf f.type)) : Sem (Array (Nat × Nat))).run Tryz.prog w = .ok #[(0, 1), (1, 1), (2, 1)] w := by
  intro w
  rw [Tryz.underlying53]
  simp [run_size ty3]
theorem pl105 : ∀ w, ((match Tryz.prog.underlying 105 with | some (.struct fs) => fs | _ => #[]).mapM (fun (f : Field) => do Pure.pure (f.offset, ← sizeOf f.type)) : Sem (Array (Nat × Nat))).run Tryz.prog w = .ok #[(0, 1), (1, 1)] w := by
  intro w
  rw [Tryz.underlying105]
  simp [run_size ty25]
theorem pl118 : ∀ w, ((match Tryz.prog.underlying 118 with | some (.struct fs) => fs | _ => #[]).mapM (fun (f : Field) => do Pure.pure (f.offset, ← sizeOf f.type)) : Sem (Array (Nat × Nat))).run Tryz.prog w = .ok #[(0, 1), (1, 1)] w := by
  intro w
  rw [Tryz.underlying118]
  simp [run_size ty116, run_size ty3]
theorem pl120 : ∀ w, ((match Tryz.prog.underlying 120 with | some (.struct fs) => fs | _ => #[]).mapM (fun (f : Field) => do Pure.pure (f.offset, ← sizeOf f.type)) : Sem (Array (Nat × Nat))).run Tryz.prog w = .ok #[(0, 1), (1, 1), (2, 1)] w := by
  intro w
  rw [Tryz.underlying120]
  simp [run_size ty109, run_size ty3, run_size ty9]
theorem pl150 : ∀ w, ((match Tryz.prog.underlying 150 with | some (.struct fs) => fs | _ => #[]).mapM (fun (f : Field) => do Pure.pure (f.offset, ← sizeOf f.type)) : Sem (Array (Nat × Nat))).run Tryz.prog w = .ok #[(0, 1), (1, 1), (2, 4), (6, 1)] w := by
  intro w
  rw [Tryz.underlying150]
  simp [run_size ty147, run_size ty148, run_size ty25, run_size ty27]
theorem pl167 : ∀ w, ((match Tryz.prog.underlying 167 with | some (.struct fs) => fs | _ => #[]).mapM (fun (f : Field) => do Pure.pure (f.offset, ← sizeOf f.type)) : Sem (Array (Nat × Nat))).run Tryz.prog w = .ok #[(0, 1), (1, 1)] w := by
  intro w
  rw [Tryz.underlying167]
  simp [run_size ty22, run_size ty25]
theorem pl186 : ∀ w, ((match Tryz.prog.underlying 186 with | some (.struct fs) => fs | _ => #[]).mapM (fun (f : Field) => do Pure.pure (f.offset, ← sizeOf f.type)) : Sem (Array (Nat × Nat))).run Tryz.prog w = .ok #[(0, 1), (1, 1)] w := by
  intro w
  rw [Tryz.underlying186]
  simp [run_size ty3, run_size ty9]
end Go.Lt.P10
