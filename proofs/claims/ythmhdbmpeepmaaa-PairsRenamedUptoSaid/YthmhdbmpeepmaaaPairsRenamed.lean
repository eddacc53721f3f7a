/-
  WHAT IS PROVED HERE: 'pairsRenamed.proved': the statement 'Rows.PairsRenamedUptoSaid': for every input of bulk at most 1048576 the law returns true, and each argument reads afterwards as it read before. No further condition.
-/
import Derived.Test.YthmhdbmpeepmaaaRows
import Derived.Test.YthmhdbmpeepmaaaLB
import Derived.Test.YthmhdbmpeepmaaaU17U17
import Derived.JoinedCond
namespace Go.Proofs.Ythmhdbmpeepmaaa.pairsRenamed
open Go.ChangeShapes Go.WideShapes Go.ChangeAt Go.RowKit
set_option linter.unusedVariables false

theorem own : ownKnob Try.prog.godebug = none := by kernel_rfl
theorem laidOut : laidOutB Try.prog = true := by kernel_rfl

mutual
theorem bulk1 {H : Type} : ∀ (d : DataW H), Rows.uptoBulk d = Go.Lt.dBulk d
  | .lit l => by cases l <;> simp [Rows.uptoBulk, Go.Lt.dBulk]
  | .nil => by simp [Rows.uptoBulk, Go.Lt.dBulk]
  | .ptr d => by simp [Rows.uptoBulk, Go.Lt.dBulk, bulk1 d]
  | .slice a b => by simp [Rows.uptoBulk, Go.Lt.dBulk, bulk2 a, bulk2 b]
  | .agg a => by simp [Rows.uptoBulk, Go.Lt.dBulk, bulk2 a]
  | .iface _ d => by simp [Rows.uptoBulk, Go.Lt.dBulk, bulk1 d]
  | .map es => by simp [Rows.uptoBulk, Go.Lt.dBulk, bulk3 es]
  | .held _ => by simp [Rows.uptoBulk, Go.Lt.dBulk]
theorem bulk2 {H : Type} : ∀ (l : List (DataW H)), Rows.uptoBulkAll l = Go.Lt.dBulkAll l
  | [] => by simp [Rows.uptoBulkAll, Go.Lt.dBulkAll]
  | d :: r => by simp [Rows.uptoBulkAll, Go.Lt.dBulkAll, bulk1 d, bulk2 r]
theorem bulk3 {H : Type} : ∀ (l : List (Lit × DataW H)), Rows.uptoBulkEntries l = Go.Lt.dBulkEntries l
  | [] => by simp [Rows.uptoBulkEntries, Go.Lt.dBulkEntries]
  | x :: r => by simp [Rows.uptoBulkEntries, Go.Lt.dBulkEntries, bulk4 x, bulk3 r]
theorem bulk4 {H : Type} : ∀ (x : Lit × DataW H), Rows.uptoBulkEntry x = Go.Lt.dBulkEntry x
  | (l, d) => by cases l <;> simp [Rows.uptoBulkEntry, Go.Lt.dBulkEntry, bulk1 d]
end

set_option maxRecDepth 100000 in
theorem lifted (os : Os) (started : os.Started) (H : Type) (enc : TypeId × Value → H) (F : Stop.Interp) :
    ReturnsInHanded {} Try.checked os 17 .any ((Rows.OpenSpec.upto Rows.pairsRenamedSpec).pre6 enc Try.prog Try.f17 Rows.pairsRenamedUptoRow.domain false) (((Rows.OpenSpec.upto Rows.pairsRenamedSpec).at F).post enc Try.prog Try.f17 false true false false) := by
  refine returnsInHanded_of_cond (C := Try.checked) (s := Rows.OpenSpec.upto Rows.pairsRenamedSpec) (k := Rows.uptoSmall) rfl own started (by kernel_rfl) Try.func17
    (OpenSpec.witness (enc := enc) (C := Try.checked) (s := Rows.OpenSpec.upto Rows.pairsRenamedSpec) (k := Rows.uptoSmall) rfl false ⟨#[], #[.int .i64 0, .slice none 0 0, .slice none 0 0], []⟩ 8 (by kernel_rfl) (by kernel_rfl) (by kernel_rfl)
      (x := ([.lit (.int .i64 0), .nil, .nil], [], [])) (by kernel_rfl) rfl (by kernel_rfl)) ?_
  intro W base args ds gs before hval hW _ hk _
  have hb : Go.Lt.dBulkAll ds ≤ 1048576 := by
    have h := of_decide_eq_true hk
    rw [bulk2, Go.Lt.B.bulk_append] at h
    omega
  exact Go.Lt.B.law_contract (N := 1048576) (n := 9) (ss := [.int .i64, .sl (.sl (.rep 2 (.int .i64))), .sl (.int .i64)]) rfl (fun ds h => by
    match ds, h with
    | [_, _, _], _ => rfl) (by kernel_rfl) Try.underlying4 laidOut (by kernel_rfl) (by kernel_rfl) Go.Lt.P8.lawCall17 hval hW hb

theorem over : Rows.pairsRenamedUptoRow.holds Try.pinned (Rows.OpenSpec.upto Rows.pairsRenamedSpec) :=
  OpenClaim.holds_of_cond 17 Try.f17 rfl rfl rfl rfl rfl rfl rfl ⟨rfl, rfl, rfl, rfl, rfl⟩ rfl rfl rfl rfl rfl (by kernel_rfl) Try.func17 (by kernel_rfl)
    (of_decide_eq_true (by kernel_rfl)) (by unfold Func.isWrapper; first | (rw [if_pos (by decide +kernel)]; kernel_rfl) | (rw [if_neg (by decide +kernel)]; exact ⟨rfl, rfl⟩))
    (fun os started H enc _ F => lifted os started H enc F)

theorem proved : Rows.PairsRenamedUptoSaid := over
#print axioms proved
end Go.Proofs.Ythmhdbmpeepmaaa.pairsRenamed
