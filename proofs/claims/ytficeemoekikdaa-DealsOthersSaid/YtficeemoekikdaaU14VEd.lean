/- PLAIN LAWS OF WHAT IS COMPUTED, for the statement 'DealsOthers'. Nothing is asked of the input. -/
import Derived.Test.YtficeemoekikdaaU14VSq
set_option linter.unusedVariables false
set_option linter.unusedSimpArgs false
namespace Go.Lt.P5
open Go Go.Lt Go.Proofs
/-- the offers in order -/
theorem r72_ok {k : Nat} {H : Hp} {c : Nat} {v : Sl} {l : List Pr} (hc : H.get c = some (.cells [.sl v] false)) (hv : SL H v l) (ho : offP l) :
    Ok (r72 (appA (k + 2)) (.fn 84 [] [.ptr c 0]) (.fn 74 [] []) H) fun w H' => Gr H H' ∧ ∃ q, SL H' w q ∧ q.Perm l ∧ q.Pairwise lexP := by
  unfold r72
  have hl8 := ho.2.1
  have hl1 := ho.1
  refine Ok.bind (r82_ok hc hv (by omega) (by intro e; rw [e] at hl1; simp at hl1)) fun w H1 ⟨g1, o1, hb⟩ => ?_
  refine Ok.bind (r83_ok (says74 (k + 1)) (by omega) o1) fun _ H2 ⟨q, o2, on, hp, hs⟩ => Ok.ret ⟨on.gr g1 hb, q, o2.sl, hp, so_lex hs (hp.nodup_iff.2 ho.2.2.2)⟩
theorem r76_spec {a b c : Pr} (ha : num a) (hb : num b) (hc : num c) (H : Hp) : ∃ H', r76 a.1 a.2 b.1 b.2 c.1 c.2 H = some (turn a b c, H') := by
  have n1 : (H.push (.cells [.int .i64 a.1, .int .i64 a.2] false)).n = H.n + 1 := by simp
  have n2 : ((H.push (.cells [.int .i64 a.1, .int .i64 a.2] false)).push (.cells [.int .i64 b.1, .int .i64 b.2] false)).n = H.n + 2 := by simp
  refine ⟨((H.push (.cells [.int .i64 a.1, .int .i64 a.2] false)).push (.cells [.int .i64 b.1, .int .i64 b.2] false)).push (.cells [.int .i64 c.1, .int .i64 c.2] false), ?_⟩
  unfold r76
  simp only [lt]
  rw [n1, n2]
  generalize hA : ((H.push (.cells [.int .i64 a.1, .int .i64 a.2] false)).push (.cells [.int .i64 b.1, .int .i64 b.2] false)).push (.cells [.int .i64 c.1, .int .i64 c.2] false) = A
  have A0 : A.get H.n = some (.cells [.int .i64 a.1, .int .i64 a.2] false) := by rw [← hA, Hp.get_push_old _ _ (by simp; omega), Hp.get_push_old _ _ (by simp)]; simp
  have A1 : A.get (H.n + 1) = some (.cells [.int .i64 b.1, .int .i64 b.2] false) := by rw [← hA, Hp.get_push_old _ _ (by simp), ← n1, Hp.get_push_new]
  have A2 : A.get (H.n + 2) = some (.cells [.int .i64 c.1, .int .i64 c.2] false) := by rw [← hA, ← n2, Hp.get_push_new]
  clear hA
  have a0 : A.ldI .i64 H.n (0 + (0 : Int).toNat * 1) = some a.1 := ldI_get A0 rfl
  have a1 : A.ldI .i64 H.n (0 + (1 : Int).toNat * 1) = some a.2 := ldI_get A0 rfl
  have b0 : A.ldI .i64 (H.n + 1) (0 + (0 : Int).toNat * 1) = some b.1 := ldI_get A1 rfl
  have b1 : A.ldI .i64 (H.n + 1) (0 + (1 : Int).toNat * 1) = some b.2 := ldI_get A1 rfl
  have c0 : A.ldI .i64 (H.n + 2) (0 + (0 : Int).toNat * 1) = some c.1 := ldI_get A2 rfl
  have c1 : A.ldI .i64 (H.n + 2) (0 + (1 : Int).toNat * 1) = some c.2 := ldI_get A2 rfl
  simp only [a0, a1, b0, b1, c0, c1, Option.bind_some]
  unfold num at ha hb hc
  have bd : ∀ x y : Int, -30 ≤ x → x ≤ 30 → -30 ≤ y → y ≤ 30 → -900 ≤ x * y ∧ x * y ≤ 900 := by
    intro x y h1 h2 h3 h4
    have p1 : 0 ≤ (30 - x) * (30 - y) := Int.mul_nonneg (by omega) (by omega)
    have p2 : 0 ≤ (30 + x) * (30 + y) := Int.mul_nonneg (by omega) (by omega)
    have p3 : 0 ≤ (30 - x) * (30 + y) := Int.mul_nonneg (by omega) (by omega)
    have p4 : 0 ≤ (30 + x) * (30 - y) := Int.mul_nonneg (by omega) (by omega)
    constructor <;> grind
  rw [w64_id (n := b.1 - a.1) (by omega) (by omega), w64_id (n := c.2 - b.2) (by omega) (by omega), w64_id (n := b.2 - a.2) (by omega) (by omega), w64_id (n := c.1 - b.1) (by omega) (by omega)]
  have q1 := bd (b.1 - a.1) (c.2 - b.2) (by omega) (by omega) (by omega) (by omega)
  have q2 := bd (b.2 - a.2) (c.1 - b.1) (by omega) (by omega) (by omega) (by omega)
  rw [w64_id (n := (b.1 - a.1) * (c.2 - b.2)) (by omega) (by omega), w64_id (n := (b.2 - a.2) * (c.1 - b.1)) (by omega) (by omega), w64_id (by omega) (by omega)]
  rfl
end Go.Lt.P5
