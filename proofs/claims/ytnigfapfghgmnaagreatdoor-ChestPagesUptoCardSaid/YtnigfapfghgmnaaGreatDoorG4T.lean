/- PRINTED BY A PROGRAM OF OURS: what each function that 'ChestPages' reaches computes on the abstract heap, and that the translated code does just that. Nothing is asked of the input. -/
import Derived.Test.YtnigfapfghgmnaaGreatDoorLB
import Derived.Test.YtnigfapfghgmnaaGreatDoorProg
import Derived.KernelRfl
set_option linter.unusedVariables false
set_option linter.unusedSimpArgs false
set_option maxRecDepth 100000
set_option maxHeartbeats 4000000
namespace Go.Lt.P10
open Go Go.Lt Go.Proofs
theorem mixed : Tryz.prog.follows .mixedOrders = true := by kernel_rfl
theorem ty3 : TyIs Tryz.prog 3 1 8 (.int .i64 0) := by unfold TyIs; kernel_rfl
theorem ty5 : TyIs Tryz.prog 5 1 1 (.int .u8 0) := by unfold TyIs; kernel_rfl
theorem ty9 : TyIs Tryz.prog 9 1 16 (.string ⟨#[]⟩) := by unfold TyIs; kernel_rfl
theorem ty30 : TyIs Tryz.prog 30 1 24 (.slice none 0 0) := by unfold TyIs; kernel_rfl
theorem ty36 : TyIs Tryz.prog 36 4 40 (.agg #[.int .i64 0, .int .i64 0, .int .i64 0, .string ⟨#[]⟩]) := by unfold TyIs; kernel_rfl
theorem ty38 : TyIs Tryz.prog 38 1 24 (.slice none 0 0) := by unfold TyIs; kernel_rfl
theorem ty54 : TyIs Tryz.prog 54 1 24 (.slice none 0 0) := by unfold TyIs; kernel_rfl
theorem ty56 : TyIs Tryz.prog 56 2 32 (.agg #[.slice none 0 0, .int .i64 0]) := by unfold TyIs; kernel_rfl
theorem ty63 : TyIs Tryz.prog 63 1 8 (.pointer none) := by unfold TyIs; kernel_rfl
theorem ty64 : TyIs Tryz.prog 64 1 24 (.slice none 0 0) := by unfold TyIs; kernel_rfl
theorem ty65 : TyIs Tryz.prog 65 2 16 (.agg #[.int .i64 0, .int .i64 0]) := by unfold TyIs; kernel_rfl
theorem ty66 : TyIs Tryz.prog 66 4 32 (.agg #[.int .i64 0, .int .i64 0, .int .i64 0, .int .i64 0]) := by unfold TyIs; kernel_rfl
theorem ty67 : TyIs Tryz.prog 67 1 24 (.slice none 0 0) := by unfold TyIs; kernel_rfl
theorem ty69 : TyIs Tryz.prog 69 7 104 (.agg #[.slice none 0 0, .slice none 0 0, .int .i64 0, .int .i64 0, .int .i64 0, .int .i64 0, .slice none 0 0]) := by unfold TyIs; kernel_rfl
theorem ty71 : TyIs Tryz.prog 71 3 32 (.agg #[.string ⟨#[]⟩, .int .i64 0, .pointer none]) := by unfold TyIs; kernel_rfl
theorem ty84 : TyIs Tryz.prog 84 2 48 (.agg #[.slice none 0 0, .slice none 0 0]) := by unfold TyIs; kernel_rfl
theorem ty93 : TyIs Tryz.prog 93 2 24 (.agg #[.string ⟨#[]⟩, .int .i64 0]) := by unfold TyIs; kernel_rfl
theorem ty114 : TyIs Tryz.prog 114 3 24 (.agg #[.int .i64 0, .int .i64 0, .int .i64 0]) := by unfold TyIs; kernel_rfl
theorem ext216 : ExtOk Tryz.prog 216 Extern.BytealgIndexByte.indexByte := ⟨Tryz.f216, Tryz.func216, by kernel_rfl, by kernel_rfl, by kernel_rfl, by kernel_rfl⟩
theorem ext220 : ExtOk Tryz.prog 220 Extern.BytealgCount.count := ⟨Tryz.f220, Tryz.func220, by kernel_rfl, by kernel_rfl, by kernel_rfl, by kernel_rfl⟩
theorem eg65 : Tryz.prog.eqGuardType Tryz.prog.depth 65 = false := by kernel_rfl
theorem sz84 : (Tryz.prog.info? 84).map (·.size) = some 2 := by kernel_rfl
theorem pl56 : ∀ w, ((match Tryz.prog.underlying 56 with | some (.struct fs) => fs | _ => #[]).mapM (fun (f : Field) => do Pure.pure (f.offset, ← sizeOf f.type)) : Sem (Array (Nat × Nat))).run Tryz.prog w = .ok #[(0, 1), (1, 1)] w := by
  intro w
  rw [Tryz.underlying56]
  simp [run_size ty3, run_size ty54]
theorem pl69 : ∀ w, ((match Tryz.prog.underlying 69 with | some (.struct fs) => fs | _ => #[]).mapM (fun (f : Field) => do Pure.pure (f.offset, ← sizeOf f.type)) : Sem (Array (Nat × Nat))).run Tryz.prog w = .ok #[(0, 1), (1, 1), (2, 4), (6, 1)] w := by
  intro w
  rw [Tryz.underlying69]
  simp [run_size ty30, run_size ty64, run_size ty66, run_size ty67]
theorem pl71 : ∀ w, ((match Tryz.prog.underlying 71 with | some (.struct fs) => fs | _ => #[]).mapM (fun (f : Field) => do Pure.pure (f.offset, ← sizeOf f.type)) : Sem (Array (Nat × Nat))).run Tryz.prog w = .ok #[(0, 1), (1, 1), (2, 1)] w := by
  intro w
  rw [Tryz.underlying71]
  simp [run_size ty3, run_size ty63, run_size ty9]
theorem pl84 : ∀ w, ((match Tryz.prog.underlying 84 with | some (.struct fs) => fs | _ => #[]).mapM (fun (f : Field) => do Pure.pure (f.offset, ← sizeOf f.type)) : Sem (Array (Nat × Nat))).run Tryz.prog w = .ok #[(0, 1), (1, 1)] w := by
  intro w
  rw [Tryz.underlying84]
  simp [run_size ty30, run_size ty38]
theorem pl93 : ∀ w, ((match Tryz.prog.underlying 93 with | some (.struct fs) => fs | _ => #[]).mapM (fun (f : Field) => do Pure.pure (f.offset, ← sizeOf f.type)) : Sem (Array (Nat × Nat))).run Tryz.prog w = .ok #[(0, 1), (1, 1)] w := by
  intro w
  rw [Tryz.underlying93]
  simp [run_size ty3, run_size ty9]
theorem pl114 : ∀ w, ((match Tryz.prog.underlying 114 with | some (.struct fs) => fs | _ => #[]).mapM (fun (f : Field) => do Pure.pure (f.offset, ← sizeOf f.type)) : Sem (Array (Nat × Nat))).run Tryz.prog w = .ok #[(0, 1), (1, 1), (2, 1)] w := by
  intro w
  rw [Tryz.underlying114]
  simp [run_size ty3]
end Go.Lt.P10
