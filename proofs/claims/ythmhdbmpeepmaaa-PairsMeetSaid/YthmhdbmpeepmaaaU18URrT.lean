/- PLAIN LAWS OF WHAT IS COMPUTED, for the statement 'PairsMeet'. Nothing is asked of the input. -/
import Derived.Test.YthmhdbmpeepmaaaU18URrN
import Derived.Test.YthmhdbmpeepmaaaU18UUp
import Derived.Test.YthmhdbmpeepmaaaG18A
set_option linter.unusedVariables false
set_option linter.unusedSimpArgs false
namespace Go.Lt.P8
open Go Go.Lt Go.Proofs
/-! ### what is taken by the number of rounds alone -/
section
variable {v1 a b a' b' : Int} {v4 : Sl} {v5 : Nat}
theorem l5c {kt kt' : Int → Int → Int → Sl → Nat → Int → Int → Hp → Option (Bool × Hp)} {v6 v8 v9 : Int} (hk : ∀ i H, kt v1 a b v4 v5 v8 i H = kt' v1 a' b' v4 v5 v8 i H) : ∀ (k : Nat) (v7 : Int) (H : Hp), r18_l5 (app 10) kt k v1 a b v4 v5 v6 v7 v8 v9 H = r18_l5 (app 10) kt' k v1 a' b' v4 v5 v6 v7 v8 v9 H := by
  intro k
  induction k with
  | zero => intro v7 H; rfl
  | succ k ih => intro v7 H; simp only [r18_l5, ih, hk]
theorem l3c (ha : Int.tmod (IntKind.wrap .u64 a) (IntKind.wrap .u64 (v4.len : Int)) = Int.tmod (IntKind.wrap .u64 a') (IntKind.wrap .u64 (v4.len : Int))) (hb : Int.tmod (IntKind.wrap .u64 b) (IntKind.wrap .u64 (v4.len : Int)) = Int.tmod (IntKind.wrap .u64 b') (IntKind.wrap .u64 (v4.len : Int))) {v6 : Int} :
    ∀ (k : Nat) (v7 : Int) (H : Hp), r18_l3 (app 10) k v1 a b v4 v5 v6 v7 H = r18_l3 (app 10) k v1 a' b' v4 v5 v6 v7 H := by
  intro k
  induction k with
  | zero => intro v7 H; rfl
  | succ k ih =>
    intro v7 H
    rw [r18_l3, r18_l3, ha, hb]
    by_cases h : v7 < v6
    · rw [if_pos h, if_pos h]
      exact l5c (fun i H => ih i H) _ _ _
    · rw [if_neg h, if_neg h]
theorem l2c {kt kt' : Int → Int → Int → Sl → Nat → Sl → Int → Int → Hp → Option (Bool × Hp)} {v6 v9 : Sl} {v7 v8 v10 : Int} (hk : ∀ i H, kt v1 a b v4 v5 v6 v7 i H = kt' v1 a' b' v4 v5 v6 v7 i H) :
    ∀ (k : Nat) (v11 : Int) (H : Hp), r18_l2 (app 10) kt k v1 a b v4 v5 v6 v7 v8 v9 v10 v11 H = r18_l2 (app 10) kt' k v1 a' b' v4 v5 v6 v7 v8 v9 v10 v11 H := by
  intro k
  induction k with
  | zero => intro v11 H; rfl
  | succ k ih => intro v11 H; simp only [r18_l2, r18_j4, ih, hk]
theorem l1c (ha : Int.tmod (IntKind.wrap .u64 a) (IntKind.wrap .u64 (v4.len : Int)) = Int.tmod (IntKind.wrap .u64 a') (IntKind.wrap .u64 (v4.len : Int))) (hb : Int.tmod (IntKind.wrap .u64 b) (IntKind.wrap .u64 (v4.len : Int)) = Int.tmod (IntKind.wrap .u64 b') (IntKind.wrap .u64 (v4.len : Int))) {v6 : Sl} {v7 : Int} :
    ∀ (k : Nat) (v8 : Int) (H : Hp), r18_l1 (app 10) k v1 a b v4 v5 v6 v7 v8 H = r18_l1 (app 10) k v1 a' b' v4 v5 v6 v7 v8 H := by
  intro k
  induction k with
  | zero => intro v8 H; rfl
  | succ k ih =>
    intro v8 H
    rw [r18_l1, r18_l1]
    by_cases h : v8 < v7
    · rw [if_pos h, if_pos h]
      unfold ck
      split
      · refine congrArg (Option.bind _) (funext fun x => ?_)
        exact l2c (fun i H => ih i H) _ _ _
      · rfl
    · rw [if_neg h, if_neg h]
      exact l3c ha hb _ _ _
end
theorem meet_same {n a b : Int} {k x y : Nat} (hk : k < 4) (hn : Int.tmod (IntKind.wrap .u64 n) 4 = k) (hx : Int.tmod (IntKind.wrap .u64 a) ((2 * k + 1 : Nat) : Int) = x) (hy : Int.tmod (IntKind.wrap .u64 b) ((2 * k + 1 : Nat) : Int) = y) (hx2 : x < 2 * k + 1) (hy2 : y < 2 * k + 1) :
    r18 (app 10) n a b H0 = r18 (app 10) k x y H0 := by
  have wn : ∀ m : Nat, m < 1000 → IntKind.wrap .u64 (m : Int) = m := fun m hm => by
    simp only [IntKind.wrap, IntKind.signed, IntKind.bits]
    simp
    omega
  have tn : ∀ p q : Nat, p < q → Int.tmod (p : Int) (q : Int) = p := fun p q h => by
    rw [Int.tmod_eq_emod_of_nonneg (by omega)]
    exact Int.emod_eq_of_lt (by omega) (by omega)
  have e4 : Int.tmod (IntKind.wrap .u64 (k : Int)) 4 = k := by rw [wn k (by omega)]; exact tn k 4 hk
  unfold r18
  rw [hn, e4]
  have ew : w64 (1 + w64 (k : Int)) = ((k + 1 : Nat) : Int) := by rw [w64_id (n := (k : Int)) (by omega) (by omega), w64_id (by omega) (by omega)]; omega
  rw [ew]
  obtain ⟨⟨w, e⟩, H1, h1, g1, h2⟩ := r68_ok ((k + 1 : Nat) : Int) H0
  rw [if_pos (by omega)] at h2
  obtain ⟨_, ws, h2⟩ := h2
  have hl := h2.len
  have hll : w.len = 2 * k + 1 := by
    dsimp only at hl
    rw [hl, Int.toNat_natCast]; simp [roundsR]; omega
  rw [h1]
  simp only [Option.bind_some]
  refine congrArg (Option.bind _) (funext fun p2 => ?_)
  refine congrArg (Option.bind _) (funext fun p3 => ?_)
  have hj : ∀ (c : Bool) H, r18_j0 (app 10) ((k + 1 : Nat) : Int) a b w c H = r18_j0 (app 10) ((k + 1 : Nat) : Int) x y w c H := by
    intro c H
    unfold r18_j0
    split
    · rfl
    · unfold lt
      refine l1c ?_ ?_ _ _ _
      · rw [hll, wn (2 * k + 1) (by omega), hx, wn x (by omega), tn x _ hx2]
      · rw [hll, wn (2 * k + 1) (by omega), hy, wn y (by omega), tn y _ hy2]
  simp only [hj]
noncomputable def meetB (k x y : Nat) : Bool := (r18 (app 10) k x y H0).map (·.1) == some true
end Go.Lt.P8
