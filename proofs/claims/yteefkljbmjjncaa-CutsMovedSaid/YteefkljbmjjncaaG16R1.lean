/- PRINTED BY A PROGRAM OF OURS: what each function that 'CutsMoved' reaches computes on the abstract heap, and that the translated code does just that. Nothing is asked of the input. -/
import Derived.Test.YteefkljbmjjncaaG16R0
set_option linter.unusedVariables false
set_option linter.unusedSimpArgs false
set_option maxRecDepth 100000
set_option maxHeartbeats 4000000
namespace Go.Lt.P2
open Go Go.Lt Go.Proofs
/- 124 slices.siftDownCmpFunc[congou/cuts.Point] -/
def ret124 : Unit → AV := fun _ => .tup []
noncomputable def r124_j1 (app : App) (kt0 : Sl → Int → Int → AV → Int → Hp → Option (Unit × Hp)) (v1 : Sl) (v2 : Int) (v3 : Int) (v4 : AV) (v5 : Int) (v6 : Int) (H : Hp) : Option (Unit × Hp) :=
  ck ((0 : Int) ≤ (w64 (v3 + v5)) ∧ (w64 (v3 + v5)) < (v1.len : Int)) (
  (H.ldI .i64 v1.b (v1.o + (w64 (v3 + v5) : Int).toNat * 4)).bind fun x2 =>
  (H.ldI .i64 v1.b ((v1.o + (w64 (v3 + v5) : Int).toNat * 4) + 1)).bind fun x3 =>
  (H.ldI .i64 v1.b ((v1.o + (w64 (v3 + v5) : Int).toNat * 4) + 2)).bind fun x4 =>
  (H.ldI .i64 v1.b ((v1.o + (w64 (v3 + v5) : Int).toNat * 4) + 3)).bind fun x5 =>
  ck ((0 : Int) ≤ (w64 (v3 + v6)) ∧ (w64 (v3 + v6)) < (v1.len : Int)) (
  (H.ldI .i64 v1.b (v1.o + (w64 (v3 + v6) : Int).toNat * 4)).bind fun x7 =>
  (H.ldI .i64 v1.b ((v1.o + (w64 (v3 + v6) : Int).toNat * 4) + 1)).bind fun x8 =>
  (H.ldI .i64 v1.b ((v1.o + (w64 (v3 + v6) : Int).toNat * 4) + 2)).bind fun x9 =>
  (H.ldI .i64 v1.b ((v1.o + (w64 (v3 + v6) : Int).toNat * 4) + 3)).bind fun x10 =>
  (callv app v4 [.agg [.int .i64 x2, .int .i64 x3, .int .i64 x4, .int .i64 x5], .agg [.int .i64 x7, .int .i64 x8, .int .i64 x9, .int .i64 x10]] H).bind fun p11 =>
  (p11.1.asI .i64).bind fun x12 =>
  if x12 < 0 then
    (ck ((0 : Int) ≤ (w64 (v3 + v6)) ∧ (w64 (v3 + v6)) < (v1.len : Int)) (
    (p11.2.ldI .i64 v1.b (v1.o + (w64 (v3 + v6) : Int).toNat * 4)).bind fun x15 =>
    (p11.2.ldI .i64 v1.b ((v1.o + (w64 (v3 + v6) : Int).toNat * 4) + 1)).bind fun x16 =>
    (p11.2.ldI .i64 v1.b ((v1.o + (w64 (v3 + v6) : Int).toNat * 4) + 2)).bind fun x17 =>
    (p11.2.ldI .i64 v1.b ((v1.o + (w64 (v3 + v6) : Int).toNat * 4) + 3)).bind fun x18 =>
    ck ((0 : Int) ≤ (w64 (v3 + v5)) ∧ (w64 (v3 + v5)) < (v1.len : Int)) (
    (p11.2.ldI .i64 v1.b (v1.o + (w64 (v3 + v5) : Int).toNat * 4)).bind fun x20 =>
    (p11.2.ldI .i64 v1.b ((v1.o + (w64 (v3 + v5) : Int).toNat * 4) + 1)).bind fun x21 =>
    (p11.2.ldI .i64 v1.b ((v1.o + (w64 (v3 + v5) : Int).toNat * 4) + 2)).bind fun x22 =>
    (p11.2.ldI .i64 v1.b ((v1.o + (w64 (v3 + v5) : Int).toNat * 4) + 3)).bind fun x23 =>
    ck ((0 : Int) ≤ (w64 (v3 + v5)) ∧ (w64 (v3 + v5)) < (v1.len : Int)) (
    (p11.2.sts v1.b (v1.o + (w64 (v3 + v5) : Int).toNat * 4) [.int .i64 x15, .int .i64 x16, .int .i64 x17, .int .i64 x18]).bind fun H25 =>
    ck ((0 : Int) ≤ (w64 (v3 + v6)) ∧ (w64 (v3 + v6)) < (v1.len : Int)) (
    (H25.sts v1.b (v1.o + (w64 (v3 + v6) : Int).toNat * 4) [.int .i64 x20, .int .i64 x21, .int .i64 x22, .int .i64 x23]).bind fun H27 =>
    kt0 v1 v2 v3 v4 v6 H27)))))
  else
    (some ((), p11.2))))
noncomputable def r124_j2 (app : App) (kt0 : Sl → Int → Int → AV → Int → Hp → Option (Unit × Hp)) (v1 : Sl) (v2 : Int) (v3 : Int) (v4 : AV) (v5 : Int) (v6 : Int) (v7 : Bool) (H : Hp) : Option (Unit × Hp) :=
  if v7 = true then
    (r124_j1 app kt0 v1 v2 v3 v4 v5 (w64 (v6 + 1)) H)
  else
    (r124_j1 app kt0 v1 v2 v3 v4 v5 v6 H)
noncomputable def r124_l0 (app : App) : Nat → Sl → Int → Int → AV → Int → Hp → Option (Unit × Hp)
  | 0, _, _, _, _, _, _ => none
  | k_ + 1, v1, v2, v3, v4, v5, H => if v2 ≤ (w64 ((w64 (2 * v5)) + 1)) then
    (some ((), H))
  else
    (if (w64 ((w64 ((w64 (2 * v5)) + 1)) + 1)) < v2 then
      (ck ((0 : Int) ≤ (w64 (v3 + (w64 ((w64 (2 * v5)) + 1)))) ∧ (w64 (v3 + (w64 ((w64 (2 * v5)) + 1)))) < (v1.len : Int)) (
      (H.ldI .i64 v1.b (v1.o + (w64 (v3 + (w64 ((w64 (2 * v5)) + 1))) : Int).toNat * 4)).bind fun x4 =>
      (H.ldI .i64 v1.b ((v1.o + (w64 (v3 + (w64 ((w64 (2 * v5)) + 1))) : Int).toNat * 4) + 1)).bind fun x5 =>
      (H.ldI .i64 v1.b ((v1.o + (w64 (v3 + (w64 ((w64 (2 * v5)) + 1))) : Int).toNat * 4) + 2)).bind fun x6 =>
      (H.ldI .i64 v1.b ((v1.o + (w64 (v3 + (w64 ((w64 (2 * v5)) + 1))) : Int).toNat * 4) + 3)).bind fun x7 =>
      ck ((0 : Int) ≤ (w64 ((w64 (v3 + (w64 ((w64 (2 * v5)) + 1)))) + 1)) ∧ (w64 ((w64 (v3 + (w64 ((w64 (2 * v5)) + 1)))) + 1)) < (v1.len : Int)) (
      (H.ldI .i64 v1.b (v1.o + (w64 ((w64 (v3 + (w64 ((w64 (2 * v5)) + 1)))) + 1) : Int).toNat * 4)).bind fun x9 =>
      (H.ldI .i64 v1.b ((v1.o + (w64 ((w64 (v3 + (w64 ((w64 (2 * v5)) + 1)))) + 1) : Int).toNat * 4) + 1)).bind fun x10 =>
      (H.ldI .i64 v1.b ((v1.o + (w64 ((w64 (v3 + (w64 ((w64 (2 * v5)) + 1)))) + 1) : Int).toNat * 4) + 2)).bind fun x11 =>
      (H.ldI .i64 v1.b ((v1.o + (w64 ((w64 (v3 + (w64 ((w64 (2 * v5)) + 1)))) + 1) : Int).toNat * 4) + 3)).bind fun x12 =>
      (callv app v4 [.agg [.int .i64 x4, .int .i64 x5, .int .i64 x6, .int .i64 x7], .agg [.int .i64 x9, .int .i64 x10, .int .i64 x11, .int .i64 x12]] H).bind fun p13 =>
      (p13.1.asI .i64).bind fun x14 =>
      r124_j2 app (fun v1_ v2_ v3_ v4_ v5_ H_ => r124_l0 app k_ v1_ v2_ v3_ v4_ v5_ H_) v1 v2 v3 v4 v5 (w64 ((w64 (2 * v5)) + 1)) (decide (x14 < 0)) p13.2)))
    else
      (r124_j2 app (fun v1_ v2_ v3_ v4_ v5_ H_ => r124_l0 app k_ v1_ v2_ v3_ v4_ v5_ H_) v1 v2 v3 v4 v5 (w64 ((w64 (2 * v5)) + 1)) false H))
noncomputable def r124 (app : App) (a0 : Sl) (a1 : Int) (a2 : Int) (a3 : Int) (a4 : AV) (H : Hp) : Option (Unit × Hp) :=
  r124_l0 app FUEL a0 a2 a3 a4 a1 H
/- 115 slices.heapSortCmpFunc[congou/cuts.Point] -/
def ret115 : Unit → AV := fun _ => .tup []
noncomputable def r115_l1 (app : App) : Nat → Sl → AV → Int → Int → Int → Hp → Option (Unit × Hp)
  | 0, _, _, _, _, _, _ => none
  | k_ + 1, v1, v2, v3, v4, v5, H => if 0 ≤ v5 then
    (ck ((0 : Int) ≤ (w64 (v3 + v5)) ∧ (w64 (v3 + v5)) < (v1.len : Int)) (
    (H.ldI .i64 v1.b (v1.o + (w64 (v3 + v5) : Int).toNat * 4)).bind fun x3 =>
    (H.ldI .i64 v1.b ((v1.o + (w64 (v3 + v5) : Int).toNat * 4) + 1)).bind fun x4 =>
    (H.ldI .i64 v1.b ((v1.o + (w64 (v3 + v5) : Int).toNat * 4) + 2)).bind fun x5 =>
    (H.ldI .i64 v1.b ((v1.o + (w64 (v3 + v5) : Int).toNat * 4) + 3)).bind fun x6 =>
    ck ((0 : Int) ≤ v3 ∧ v3 < (v1.len : Int)) (
    (H.ldI .i64 v1.b (v1.o + (v3 : Int).toNat * 4)).bind fun x8 =>
    (H.ldI .i64 v1.b ((v1.o + (v3 : Int).toNat * 4) + 1)).bind fun x9 =>
    (H.ldI .i64 v1.b ((v1.o + (v3 : Int).toNat * 4) + 2)).bind fun x10 =>
    (H.ldI .i64 v1.b ((v1.o + (v3 : Int).toNat * 4) + 3)).bind fun x11 =>
    ck ((0 : Int) ≤ v3 ∧ v3 < (v1.len : Int)) (
    (H.sts v1.b (v1.o + (v3 : Int).toNat * 4) [.int .i64 x3, .int .i64 x4, .int .i64 x5, .int .i64 x6]).bind fun H13 =>
    ck ((0 : Int) ≤ (w64 (v3 + v5)) ∧ (w64 (v3 + v5)) < (v1.len : Int)) (
    (H13.sts v1.b (v1.o + (w64 (v3 + v5) : Int).toNat * 4) [.int .i64 x8, .int .i64 x9, .int .i64 x10, .int .i64 x11]).bind fun H15 =>
    (r124 app v1 v4 v5 v3 v2 H15).bind fun p16 =>
    r115_l1 app k_ v1 v2 v3 v4 (w64 (v5 - 1)) p16.2)))))
  else
    (some ((), H))
noncomputable def r115_l0 (app : App) : Nat → Sl → AV → Int → Int → Int → Int → Hp → Option (Unit × Hp)
  | 0, _, _, _, _, _, _, _ => none
  | k_ + 1, v1, v2, v3, v4, v5, v6, H => if 0 ≤ v6 then
    ((r124 app v1 v6 v5 v3 v2 H).bind fun p2 =>
    r115_l0 app k_ v1 v2 v3 v4 v5 (w64 (v6 - 1)) p2.2)
  else
    (r115_l1 app FUEL v1 v2 v3 v4 (w64 (v5 - 1)) H)
noncomputable def r115 (app : App) (a0 : Sl) (a1 : Int) (a2 : Int) (a3 : AV) (H : Hp) : Option (Unit × Hp) :=
  r115_l0 app FUEL a0 a3 a1 0 (w64 (a2 - a1)) (w64 (Int.tdiv (w64 ((w64 (a2 - a1)) - 1)) 2)) H
/- 122 math/bits.Len32 -/
def ret122 : Int → AV := fun r => .int .i64 r
noncomputable def r122_j0 (v1 : Int) (v2 : Int) (H : Hp) : Option (Int × Hp) :=
  ck ((0 : Int) ≤ (IntKind.wrap .u8 (v1)) ∧ (IntKind.wrap .u8 (v1)) < ((strC Try.f122 [1, 1, 1, 0] 3 0).size : Int)) (
  some (w64 (v2 + (w64 (bt (strC Try.f122 [1, 1, 1, 0] 3 0) (IntKind.wrap .u8 (v1))))), H))
noncomputable def r122_j1 (v1 : Int) (v2 : Int) (H : Hp) : Option (Int × Hp) :=
  if 256 ≤ v1 then
    (r122_j0 (shrOf .u32 v1 8) (w64 (v2 + 8)) H)
  else
    (r122_j0 v1 v2 H)
noncomputable def r122 (a0 : Int) (H : Hp) : Option (Int × Hp) :=
  if 65536 ≤ a0 then
    (r122_j1 (shrOf .u32 a0 16) 16 H)
  else
    (r122_j1 a0 0 H)
/- 123 math/bits.Len64 -/
def ret123 : Int → AV := fun r => .int .i64 r
noncomputable def r123_j0 (v1 : Int) (v2 : Int) (H : Hp) : Option (Int × Hp) :=
  ck ((0 : Int) ≤ (IntKind.wrap .u8 (v1)) ∧ (IntKind.wrap .u8 (v1)) < ((strC Try.f123 [1, 1, 1, 1, 0] 3 0).size : Int)) (
  some (w64 (v2 + (w64 (bt (strC Try.f123 [1, 1, 1, 1, 0] 3 0) (IntKind.wrap .u8 (v1))))), H))
noncomputable def r123_j1 (v1 : Int) (v2 : Int) (H : Hp) : Option (Int × Hp) :=
  if 256 ≤ v1 then
    (r123_j0 (shrOf .u64 v1 8) (w64 (v2 + 8)) H)
  else
    (r123_j0 v1 v2 H)
noncomputable def r123_j2 (v1 : Int) (v2 : Int) (H : Hp) : Option (Int × Hp) :=
  if 65536 ≤ v1 then
    (r123_j1 (shrOf .u64 v1 16) (w64 (v2 + 16)) H)
  else
    (r123_j1 v1 v2 H)
noncomputable def r123 (a0 : Int) (H : Hp) : Option (Int × Hp) :=
  if 4294967296 ≤ a0 then
    (r123_j2 (shrOf .u64 a0 32) 32 H)
  else
    (r123_j2 a0 0 H)
/- 109 math/bits.Len -/
def ret109 : Int → AV := fun r => .int .i64 r
noncomputable def r109 (a0 : Int) (H : Hp) : Option (Int × Hp) :=
  (r123 a0 H).bind fun p1 =>
  some (p1.1, p1.2)
/- 125 slices.nextPowerOfTwo -/
def ret125 : Int → AV := fun r => .int .u64 r
noncomputable def r125 (a0 : Int) (H : Hp) : Option (Int × Hp) :=
  (r109 (IntKind.wrap .u64 (a0)) H).bind fun p1 =>
  ck (¬ p1.1 < 0) (
  some (shlOf .u64 1 p1.1, p1.2))
/- 126 (*slices.xorshift).Next -/
def ret126 : Int → AV := fun r => .int .u64 r
noncomputable def r126 (a0b : Nat) (a0o : Nat) (H : Hp) : Option (Int × Hp) :=
  (H.ldI .u64 a0b a0o).bind fun x1 =>
  (H.ldI .u64 a0b a0o).bind fun x2 =>
  (H.st a0b a0o (.int .u64 (bitsOf .xor .u64 x1 (shlOf .u64 x2 13)))).bind fun H3 =>
  (H3.ldI .u64 a0b a0o).bind fun x4 =>
  (H3.ldI .u64 a0b a0o).bind fun x5 =>
  (H3.st a0b a0o (.int .u64 (bitsOf .xor .u64 x4 (shrOf .u64 x5 7)))).bind fun H6 =>
  (H6.ldI .u64 a0b a0o).bind fun x7 =>
  (H6.ldI .u64 a0b a0o).bind fun x8 =>
  (H6.st a0b a0o (.int .u64 (bitsOf .xor .u64 x7 (shlOf .u64 x8 17)))).bind fun H9 =>
  (H9.ldI .u64 a0b a0o).bind fun x10 =>
  some (x10, H9)
/- 116 slices.breakPatternsCmpFunc[congou/cuts.Point] -/
def ret116 : Unit → AV := fun _ => .tup []
noncomputable def r116_j1 (kt0 : Sl → Int → Int → Nat → Int → Int → Hp → Option (Unit × Hp)) (v1 : Sl) (v2 : Int) (v3 : Int) (v4 : Nat) (v5 : Int) (v6 : Int) (v7 : Int) (H : Hp) : Option (Unit × Hp) :=
  ck ((0 : Int) ≤ (w64 (v2 + v7)) ∧ (w64 (v2 + v7)) < (v1.len : Int)) (
  (H.ldI .i64 v1.b (v1.o + (w64 (v2 + v7) : Int).toNat * 4)).bind fun x2 =>
  (H.ldI .i64 v1.b ((v1.o + (w64 (v2 + v7) : Int).toNat * 4) + 1)).bind fun x3 =>
  (H.ldI .i64 v1.b ((v1.o + (w64 (v2 + v7) : Int).toNat * 4) + 2)).bind fun x4 =>
  (H.ldI .i64 v1.b ((v1.o + (w64 (v2 + v7) : Int).toNat * 4) + 3)).bind fun x5 =>
  ck ((0 : Int) ≤ v6 ∧ v6 < (v1.len : Int)) (
  (H.ldI .i64 v1.b (v1.o + (v6 : Int).toNat * 4)).bind fun x7 =>
  (H.ldI .i64 v1.b ((v1.o + (v6 : Int).toNat * 4) + 1)).bind fun x8 =>
  (H.ldI .i64 v1.b ((v1.o + (v6 : Int).toNat * 4) + 2)).bind fun x9 =>
  (H.ldI .i64 v1.b ((v1.o + (v6 : Int).toNat * 4) + 3)).bind fun x10 =>
  ck ((0 : Int) ≤ v6 ∧ v6 < (v1.len : Int)) (
  (H.sts v1.b (v1.o + (v6 : Int).toNat * 4) [.int .i64 x2, .int .i64 x3, .int .i64 x4, .int .i64 x5]).bind fun H12 =>
  ck ((0 : Int) ≤ (w64 (v2 + v7)) ∧ (w64 (v2 + v7)) < (v1.len : Int)) (
  (H12.sts v1.b (v1.o + (w64 (v2 + v7) : Int).toNat * 4) [.int .i64 x7, .int .i64 x8, .int .i64 x9, .int .i64 x10]).bind fun H14 =>
  kt0 v1 v2 v3 v4 v5 (w64 (v6 + 1)) H14))))
noncomputable def r116_l0 : Nat → Sl → Int → Int → Nat → Int → Int → Hp → Option (Unit × Hp)
  | 0, _, _, _, _, _, _, _ => none
  | k_ + 1, v1, v2, v3, v4, v5, v6, H => if v6 ≤ (w64 ((w64 (v2 + (w64 ((w64 (Int.tdiv v3 4)) * 2)))) + 1)) then
    ((r126 v4 0 H).bind fun p2 =>
    if v3 ≤ (w64 (bitsOf .and .u64 p2.1 (IntKind.wrap .u64 (v5 - 1)))) then
      (r116_j1 (fun v1_ v2_ v3_ v4_ v5_ v6_ H_ => r116_l0 k_ v1_ v2_ v3_ v4_ v5_ v6_ H_) v1 v2 v3 v4 v5 v6 (w64 ((w64 (bitsOf .and .u64 p2.1 (IntKind.wrap .u64 (v5 - 1)))) - v3)) p2.2)
    else
      (r116_j1 (fun v1_ v2_ v3_ v4_ v5_ v6_ H_ => r116_l0 k_ v1_ v2_ v3_ v4_ v5_ v6_ H_) v1 v2 v3 v4 v5 v6 (w64 (bitsOf .and .u64 p2.1 (IntKind.wrap .u64 (v5 - 1)))) p2.2))
  else
    (some ((), H))
noncomputable def r116 (a0 : Sl) (a1 : Int) (a2 : Int) (a3 : AV) (H : Hp) : Option (Unit × Hp) :=
  if 8 ≤ (w64 (a2 - a1)) then
    (((H.push (.cells [.int .u64 0] false)).st H.n 0 (.int .u64 (IntKind.wrap .u64 (w64 (a2 - a1))))).bind fun H2 =>
    (r125 (w64 (a2 - a1)) H2).bind fun p3 =>
    r116_l0 FUEL a0 a1 (w64 (a2 - a1)) H.n p3.1 (w64 ((w64 (a1 + (w64 ((w64 (Int.tdiv (w64 (a2 - a1)) 4)) * 2)))) - 1)) p3.2)
  else
    (some ((), H))
/- 129 slices.order2CmpFunc[congou/cuts.Point] -/
def ret129 : Int × Int → AV := fun r => .tup [.int .i64 r.1, .int .i64 r.2]
noncomputable def r129 (app : App) (a0 : Sl) (a1 : Int) (a2 : Int) (a3b : Nat) (a3o : Nat) (a4 : AV) (H : Hp) : Option ((Int × Int) × Hp) :=
  ck ((0 : Int) ≤ a2 ∧ a2 < (a0.len : Int)) (
  (H.ldI .i64 a0.b (a0.o + (a2 : Int).toNat * 4)).bind fun x2 =>
  (H.ldI .i64 a0.b ((a0.o + (a2 : Int).toNat * 4) + 1)).bind fun x3 =>
  (H.ldI .i64 a0.b ((a0.o + (a2 : Int).toNat * 4) + 2)).bind fun x4 =>
  (H.ldI .i64 a0.b ((a0.o + (a2 : Int).toNat * 4) + 3)).bind fun x5 =>
  ck ((0 : Int) ≤ a1 ∧ a1 < (a0.len : Int)) (
  (H.ldI .i64 a0.b (a0.o + (a1 : Int).toNat * 4)).bind fun x7 =>
  (H.ldI .i64 a0.b ((a0.o + (a1 : Int).toNat * 4) + 1)).bind fun x8 =>
  (H.ldI .i64 a0.b ((a0.o + (a1 : Int).toNat * 4) + 2)).bind fun x9 =>
  (H.ldI .i64 a0.b ((a0.o + (a1 : Int).toNat * 4) + 3)).bind fun x10 =>
  (callv app a4 [.agg [.int .i64 x2, .int .i64 x3, .int .i64 x4, .int .i64 x5], .agg [.int .i64 x7, .int .i64 x8, .int .i64 x9, .int .i64 x10]] H).bind fun p11 =>
  (p11.1.asI .i64).bind fun x12 =>
  if x12 < 0 then
    ((p11.2.ldI .i64 a3b a3o).bind fun x14 =>
    (p11.2.st a3b a3o (.int .i64 (w64 (x14 + 1)))).bind fun H15 =>
    some ((a2, a1), H15))
  else
    (some ((a1, a2), p11.2))))
/- 128 slices.medianCmpFunc[congou/cuts.Point] -/
def ret128 : Int → AV := fun r => .int .i64 r
noncomputable def r128 (app : App) (a0 : Sl) (a1 : Int) (a2 : Int) (a3 : Int) (a4b : Nat) (a4o : Nat) (a5 : AV) (H : Hp) : Option (Int × Hp) :=
  (r129 app a0 a1 a2 a4b a4o a5 H).bind fun p1 =>
  (r129 app a0 p1.1.2 a3 a4b a4o a5 p1.2).bind fun p2 =>
  (r129 app a0 p1.1.1 p2.1.1 a4b a4o a5 p2.2).bind fun p3 =>
  some (p3.1.2, p3.2)
/- 127 slices.medianAdjacentCmpFunc[congou/cuts.Point] -/
def ret127 : Int → AV := fun r => .int .i64 r
noncomputable def r127 (app : App) (a0 : Sl) (a1 : Int) (a2b : Nat) (a2o : Nat) (a3 : AV) (H : Hp) : Option (Int × Hp) :=
  (r128 app a0 (w64 (a1 - 1)) a1 (w64 (a1 + 1)) a2b a2o a3 H).bind fun p1 =>
  some (p1.1, p1.2)
/- 117 slices.choosePivotCmpFunc[congou/cuts.Point] -/
def ret117 : Int × Int → AV := fun r => .tup [.int .i64 r.1, .int .i64 r.2]
noncomputable def r117_j1 (app : App) (v1 : Nat) (v2 : Int) (H : Hp) : Option ((Int × Int) × Hp) :=
  (H.ldI .i64 v1 0).bind fun x1 =>
  if x1 = 0 then
    (some ((v2, 1), H))
  else
    (if x1 = 12 then
      (some ((v2, 2), H))
    else
      (some ((v2, 0), H)))
noncomputable def r117_j0 (app : App) (v1 : Sl) (v2 : AV) (v3 : Nat) (v4 : Int) (v5 : Int) (v6 : Int) (H : Hp) : Option ((Int × Int) × Hp) :=
  (r128 app v1 v4 v5 v6 v3 0 v2 H).bind fun p1 =>
  r117_j1 app v3 p1.1 p1.2
noncomputable def r117 (app : App) (a0 : Sl) (a1 : Int) (a2 : Int) (a3 : AV) (H : Hp) : Option ((Int × Int) × Hp) :=
  lt (H.push (.cells [.int .i64 0] false)) fun H1 =>
  if 8 ≤ (w64 (a2 - a1)) then
    (if 50 ≤ (w64 (a2 - a1)) then
      ((r127 app a0 (w64 (a1 + (w64 ((w64 (Int.tdiv (w64 (a2 - a1)) 4)) * 1)))) H.n 0 a3 H1).bind fun p4 =>
      (r127 app a0 (w64 (a1 + (w64 ((w64 (Int.tdiv (w64 (a2 - a1)) 4)) * 2)))) H.n 0 a3 p4.2).bind fun p5 =>
      (r127 app a0 (w64 (a1 + (w64 ((w64 (Int.tdiv (w64 (a2 - a1)) 4)) * 3)))) H.n 0 a3 p5.2).bind fun p6 =>
      r117_j0 app a0 a3 H.n p4.1 p5.1 p6.1 p6.2)
    else
      (r117_j0 app a0 a3 H.n (w64 (a1 + (w64 ((w64 (Int.tdiv (w64 (a2 - a1)) 4)) * 1)))) (w64 (a1 + (w64 ((w64 (Int.tdiv (w64 (a2 - a1)) 4)) * 2)))) (w64 (a1 + (w64 ((w64 (Int.tdiv (w64 (a2 - a1)) 4)) * 3)))) H1))
  else
    (r117_j1 app H.n (w64 (a1 + (w64 ((w64 (Int.tdiv (w64 (a2 - a1)) 4)) * 2)))) H1)
/- 118 slices.reverseRangeCmpFunc[congou/cuts.Point] -/
def ret118 : Unit → AV := fun _ => .tup []
noncomputable def r118_l0 : Nat → Sl → Int → Int → Hp → Option (Unit × Hp)
  | 0, _, _, _, _ => none
  | k_ + 1, v1, v2, v3, H => if v2 < v3 then
    (ck ((0 : Int) ≤ v3 ∧ v3 < (v1.len : Int)) (
    (H.ldI .i64 v1.b (v1.o + (v3 : Int).toNat * 4)).bind fun x3 =>
    (H.ldI .i64 v1.b ((v1.o + (v3 : Int).toNat * 4) + 1)).bind fun x4 =>
    (H.ldI .i64 v1.b ((v1.o + (v3 : Int).toNat * 4) + 2)).bind fun x5 =>
    (H.ldI .i64 v1.b ((v1.o + (v3 : Int).toNat * 4) + 3)).bind fun x6 =>
    ck ((0 : Int) ≤ v2 ∧ v2 < (v1.len : Int)) (
    (H.ldI .i64 v1.b (v1.o + (v2 : Int).toNat * 4)).bind fun x8 =>
    (H.ldI .i64 v1.b ((v1.o + (v2 : Int).toNat * 4) + 1)).bind fun x9 =>
    (H.ldI .i64 v1.b ((v1.o + (v2 : Int).toNat * 4) + 2)).bind fun x10 =>
    (H.ldI .i64 v1.b ((v1.o + (v2 : Int).toNat * 4) + 3)).bind fun x11 =>
    ck ((0 : Int) ≤ v2 ∧ v2 < (v1.len : Int)) (
    (H.sts v1.b (v1.o + (v2 : Int).toNat * 4) [.int .i64 x3, .int .i64 x4, .int .i64 x5, .int .i64 x6]).bind fun H13 =>
    ck ((0 : Int) ≤ v3 ∧ v3 < (v1.len : Int)) (
    (H13.sts v1.b (v1.o + (v3 : Int).toNat * 4) [.int .i64 x8, .int .i64 x9, .int .i64 x10, .int .i64 x11]).bind fun H15 =>
    r118_l0 k_ v1 (w64 (v2 + 1)) (w64 (v3 - 1)) H15)))))
  else
    (some ((), H))
noncomputable def r118 (a0 : Sl) (a1 : Int) (a2 : Int) (a3 : AV) (H : Hp) : Option (Unit × Hp) :=
  r118_l0 FUEL a0 a1 (w64 (a2 - 1)) H
/- 119 slices.partialInsertionSortCmpFunc[congou/cuts.Point] -/
def ret119 : Bool → AV := fun r => .bool r
noncomputable def r119_l3 (app : App) (kt0 : Sl → Int → Int → AV → Int → Int → Hp → Option (Bool × Hp)) : Nat → Sl → Int → Int → AV → Int → Int → Int → Hp → Option (Bool × Hp)
  | 0, _, _, _, _, _, _, _, _ => none
  | k_ + 1, v1, v2, v3, v4, v5, v6, v7, H => if v7 < v3 then
    (ck ((0 : Int) ≤ v7 ∧ v7 < (v1.len : Int)) (
    (H.ldI .i64 v1.b (v1.o + (v7 : Int).toNat * 4)).bind fun x3 =>
    (H.ldI .i64 v1.b ((v1.o + (v7 : Int).toNat * 4) + 1)).bind fun x4 =>
    (H.ldI .i64 v1.b ((v1.o + (v7 : Int).toNat * 4) + 2)).bind fun x5 =>
    (H.ldI .i64 v1.b ((v1.o + (v7 : Int).toNat * 4) + 3)).bind fun x6 =>
    ck ((0 : Int) ≤ (w64 (v7 - 1)) ∧ (w64 (v7 - 1)) < (v1.len : Int)) (
    (H.ldI .i64 v1.b (v1.o + (w64 (v7 - 1) : Int).toNat * 4)).bind fun x8 =>
    (H.ldI .i64 v1.b ((v1.o + (w64 (v7 - 1) : Int).toNat * 4) + 1)).bind fun x9 =>
    (H.ldI .i64 v1.b ((v1.o + (w64 (v7 - 1) : Int).toNat * 4) + 2)).bind fun x10 =>
    (H.ldI .i64 v1.b ((v1.o + (w64 (v7 - 1) : Int).toNat * 4) + 3)).bind fun x11 =>
    (callv app v4 [.agg [.int .i64 x3, .int .i64 x4, .int .i64 x5, .int .i64 x6], .agg [.int .i64 x8, .int .i64 x9, .int .i64 x10, .int .i64 x11]] H).bind fun p12 =>
    (p12.1.asI .i64).bind fun x13 =>
    if x13 < 0 then
      (ck ((0 : Int) ≤ (w64 (v7 - 1)) ∧ (w64 (v7 - 1)) < (v1.len : Int)) (
      (p12.2.ldI .i64 v1.b (v1.o + (w64 (v7 - 1) : Int).toNat * 4)).bind fun x16 =>
      (p12.2.ldI .i64 v1.b ((v1.o + (w64 (v7 - 1) : Int).toNat * 4) + 1)).bind fun x17 =>
      (p12.2.ldI .i64 v1.b ((v1.o + (w64 (v7 - 1) : Int).toNat * 4) + 2)).bind fun x18 =>
      (p12.2.ldI .i64 v1.b ((v1.o + (w64 (v7 - 1) : Int).toNat * 4) + 3)).bind fun x19 =>
      ck ((0 : Int) ≤ v7 ∧ v7 < (v1.len : Int)) (
      (p12.2.ldI .i64 v1.b (v1.o + (v7 : Int).toNat * 4)).bind fun x21 =>
      (p12.2.ldI .i64 v1.b ((v1.o + (v7 : Int).toNat * 4) + 1)).bind fun x22 =>
      (p12.2.ldI .i64 v1.b ((v1.o + (v7 : Int).toNat * 4) + 2)).bind fun x23 =>
      (p12.2.ldI .i64 v1.b ((v1.o + (v7 : Int).toNat * 4) + 3)).bind fun x24 =>
      ck ((0 : Int) ≤ v7 ∧ v7 < (v1.len : Int)) (
      (p12.2.sts v1.b (v1.o + (v7 : Int).toNat * 4) [.int .i64 x16, .int .i64 x17, .int .i64 x18, .int .i64 x19]).bind fun H26 =>
      ck ((0 : Int) ≤ (w64 (v7 - 1)) ∧ (w64 (v7 - 1)) < (v1.len : Int)) (
      (H26.sts v1.b (v1.o + (w64 (v7 - 1) : Int).toNat * 4) [.int .i64 x21, .int .i64 x22, .int .i64 x23, .int .i64 x24]).bind fun H28 =>
      r119_l3 app kt0 k_ v1 v2 v3 v4 v5 v6 (w64 (v7 + 1)) H28)))))
    else
      (kt0 v1 v2 v3 v4 v5 (w64 (v6 + 1)) p12.2))))
  else
    (kt0 v1 v2 v3 v4 v5 (w64 (v6 + 1)) H)
noncomputable def r119_j5 (app : App) (kt0 : Sl → Int → Int → AV → Int → Int → Hp → Option (Bool × Hp)) (v1 : Sl) (v2 : Int) (v3 : Int) (v4 : AV) (v5 : Int) (v6 : Int) (H : Hp) : Option (Bool × Hp) :=
  if 2 ≤ (w64 (v3 - v5)) then
    (r119_l3 app kt0 FUEL v1 v2 v3 v4 v5 v6 (w64 (v5 + 1)) H)
  else
    (kt0 v1 v2 v3 v4 v5 (w64 (v6 + 1)) H)
noncomputable def r119_l2 (app : App) (kt0 : Sl → Int → Int → AV → Int → Int → Hp → Option (Bool × Hp)) : Nat → Sl → Int → Int → AV → Int → Int → Int → Hp → Option (Bool × Hp)
  | 0, _, _, _, _, _, _, _, _ => none
  | k_ + 1, v1, v2, v3, v4, v5, v6, v7, H => if 1 ≤ v7 then
    (ck ((0 : Int) ≤ v7 ∧ v7 < (v1.len : Int)) (
    (H.ldI .i64 v1.b (v1.o + (v7 : Int).toNat * 4)).bind fun x3 =>
    (H.ldI .i64 v1.b ((v1.o + (v7 : Int).toNat * 4) + 1)).bind fun x4 =>
    (H.ldI .i64 v1.b ((v1.o + (v7 : Int).toNat * 4) + 2)).bind fun x5 =>
    (H.ldI .i64 v1.b ((v1.o + (v7 : Int).toNat * 4) + 3)).bind fun x6 =>
    ck ((0 : Int) ≤ (w64 (v7 - 1)) ∧ (w64 (v7 - 1)) < (v1.len : Int)) (
    (H.ldI .i64 v1.b (v1.o + (w64 (v7 - 1) : Int).toNat * 4)).bind fun x8 =>
    (H.ldI .i64 v1.b ((v1.o + (w64 (v7 - 1) : Int).toNat * 4) + 1)).bind fun x9 =>
    (H.ldI .i64 v1.b ((v1.o + (w64 (v7 - 1) : Int).toNat * 4) + 2)).bind fun x10 =>
    (H.ldI .i64 v1.b ((v1.o + (w64 (v7 - 1) : Int).toNat * 4) + 3)).bind fun x11 =>
    (callv app v4 [.agg [.int .i64 x3, .int .i64 x4, .int .i64 x5, .int .i64 x6], .agg [.int .i64 x8, .int .i64 x9, .int .i64 x10, .int .i64 x11]] H).bind fun p12 =>
    (p12.1.asI .i64).bind fun x13 =>
    if x13 < 0 then
      (ck ((0 : Int) ≤ (w64 (v7 - 1)) ∧ (w64 (v7 - 1)) < (v1.len : Int)) (
      (p12.2.ldI .i64 v1.b (v1.o + (w64 (v7 - 1) : Int).toNat * 4)).bind fun x16 =>
      (p12.2.ldI .i64 v1.b ((v1.o + (w64 (v7 - 1) : Int).toNat * 4) + 1)).bind fun x17 =>
      (p12.2.ldI .i64 v1.b ((v1.o + (w64 (v7 - 1) : Int).toNat * 4) + 2)).bind fun x18 =>
      (p12.2.ldI .i64 v1.b ((v1.o + (w64 (v7 - 1) : Int).toNat * 4) + 3)).bind fun x19 =>
      ck ((0 : Int) ≤ v7 ∧ v7 < (v1.len : Int)) (
      (p12.2.ldI .i64 v1.b (v1.o + (v7 : Int).toNat * 4)).bind fun x21 =>
      (p12.2.ldI .i64 v1.b ((v1.o + (v7 : Int).toNat * 4) + 1)).bind fun x22 =>
      (p12.2.ldI .i64 v1.b ((v1.o + (v7 : Int).toNat * 4) + 2)).bind fun x23 =>
      (p12.2.ldI .i64 v1.b ((v1.o + (v7 : Int).toNat * 4) + 3)).bind fun x24 =>
      ck ((0 : Int) ≤ v7 ∧ v7 < (v1.len : Int)) (
      (p12.2.sts v1.b (v1.o + (v7 : Int).toNat * 4) [.int .i64 x16, .int .i64 x17, .int .i64 x18, .int .i64 x19]).bind fun H26 =>
      ck ((0 : Int) ≤ (w64 (v7 - 1)) ∧ (w64 (v7 - 1)) < (v1.len : Int)) (
      (H26.sts v1.b (v1.o + (w64 (v7 - 1) : Int).toNat * 4) [.int .i64 x21, .int .i64 x22, .int .i64 x23, .int .i64 x24]).bind fun H28 =>
      r119_l2 app kt0 k_ v1 v2 v3 v4 v5 v6 (w64 (v7 - 1)) H28)))))
    else
      (r119_j5 app kt0 v1 v2 v3 v4 v5 v6 p12.2))))
  else
    (r119_j5 app kt0 v1 v2 v3 v4 v5 v6 H)
noncomputable def r119_j4 (app : App) (kt0 : Sl → Int → Int → AV → Int → Int → Hp → Option (Bool × Hp)) (kt1 : Sl → Int → Int → AV → Int → Int → Hp → Option (Bool × Hp)) (v1 : Sl) (v2 : Int) (v3 : Int) (v4 : AV) (v5 : Int) (v6 : Int) (v7 : Bool) (H : Hp) : Option (Bool × Hp) :=
  if v7 = true then
    (kt1 v1 v2 v3 v4 (w64 (v5 + 1)) v6 H)
  else
    (if v5 = v3 then
      (some (true, H))
    else
      (if (w64 (v3 - v2)) < 50 then
        (some (false, H))
      else
        (ck ((0 : Int) ≤ (w64 (v5 - 1)) ∧ (w64 (v5 - 1)) < (v1.len : Int)) (
        (H.ldI .i64 v1.b (v1.o + (w64 (v5 - 1) : Int).toNat * 4)).bind fun x5 =>
        (H.ldI .i64 v1.b ((v1.o + (w64 (v5 - 1) : Int).toNat * 4) + 1)).bind fun x6 =>
        (H.ldI .i64 v1.b ((v1.o + (w64 (v5 - 1) : Int).toNat * 4) + 2)).bind fun x7 =>
        (H.ldI .i64 v1.b ((v1.o + (w64 (v5 - 1) : Int).toNat * 4) + 3)).bind fun x8 =>
        ck ((0 : Int) ≤ v5 ∧ v5 < (v1.len : Int)) (
        (H.ldI .i64 v1.b (v1.o + (v5 : Int).toNat * 4)).bind fun x10 =>
        (H.ldI .i64 v1.b ((v1.o + (v5 : Int).toNat * 4) + 1)).bind fun x11 =>
        (H.ldI .i64 v1.b ((v1.o + (v5 : Int).toNat * 4) + 2)).bind fun x12 =>
        (H.ldI .i64 v1.b ((v1.o + (v5 : Int).toNat * 4) + 3)).bind fun x13 =>
        ck ((0 : Int) ≤ v5 ∧ v5 < (v1.len : Int)) (
        (H.sts v1.b (v1.o + (v5 : Int).toNat * 4) [.int .i64 x5, .int .i64 x6, .int .i64 x7, .int .i64 x8]).bind fun H15 =>
        ck ((0 : Int) ≤ (w64 (v5 - 1)) ∧ (w64 (v5 - 1)) < (v1.len : Int)) (
        (H15.sts v1.b (v1.o + (w64 (v5 - 1) : Int).toNat * 4) [.int .i64 x10, .int .i64 x11, .int .i64 x12, .int .i64 x13]).bind fun H17 =>
        if 2 ≤ (w64 (v5 - v2)) then
          (r119_l2 app kt0 FUEL v1 v2 v3 v4 v5 v6 (w64 (v5 - 1)) H17)
        else
          (r119_j5 app kt0 v1 v2 v3 v4 v5 v6 H17))))))))
noncomputable def r119_l1 (app : App) (kt0 : Sl → Int → Int → AV → Int → Int → Hp → Option (Bool × Hp)) : Nat → Sl → Int → Int → AV → Int → Int → Hp → Option (Bool × Hp)
  | 0, _, _, _, _, _, _, _ => none
  | k_ + 1, v1, v2, v3, v4, v5, v6, H => if v5 < v3 then
    (ck ((0 : Int) ≤ v5 ∧ v5 < (v1.len : Int)) (
    (H.ldI .i64 v1.b (v1.o + (v5 : Int).toNat * 4)).bind fun x3 =>
    (H.ldI .i64 v1.b ((v1.o + (v5 : Int).toNat * 4) + 1)).bind fun x4 =>
    (H.ldI .i64 v1.b ((v1.o + (v5 : Int).toNat * 4) + 2)).bind fun x5 =>
    (H.ldI .i64 v1.b ((v1.o + (v5 : Int).toNat * 4) + 3)).bind fun x6 =>
    ck ((0 : Int) ≤ (w64 (v5 - 1)) ∧ (w64 (v5 - 1)) < (v1.len : Int)) (
    (H.ldI .i64 v1.b (v1.o + (w64 (v5 - 1) : Int).toNat * 4)).bind fun x8 =>
    (H.ldI .i64 v1.b ((v1.o + (w64 (v5 - 1) : Int).toNat * 4) + 1)).bind fun x9 =>
    (H.ldI .i64 v1.b ((v1.o + (w64 (v5 - 1) : Int).toNat * 4) + 2)).bind fun x10 =>
    (H.ldI .i64 v1.b ((v1.o + (w64 (v5 - 1) : Int).toNat * 4) + 3)).bind fun x11 =>
    (callv app v4 [.agg [.int .i64 x3, .int .i64 x4, .int .i64 x5, .int .i64 x6], .agg [.int .i64 x8, .int .i64 x9, .int .i64 x10, .int .i64 x11]] H).bind fun p12 =>
    (p12.1.asI .i64).bind fun x13 =>
    r119_j4 app kt0 (fun v1_ v2_ v3_ v4_ v5_ v6_ H_ => r119_l1 app kt0 k_ v1_ v2_ v3_ v4_ v5_ v6_ H_) v1 v2 v3 v4 v5 v6 (!(decide (x13 < 0))) p12.2)))
  else
    (r119_j4 app kt0 (fun v1_ v2_ v3_ v4_ v5_ v6_ H_ => r119_l1 app kt0 k_ v1_ v2_ v3_ v4_ v5_ v6_ H_) v1 v2 v3 v4 v5 v6 false H)
noncomputable def r119_l0 (app : App) : Nat → Sl → Int → Int → AV → Int → Int → Hp → Option (Bool × Hp)
  | 0, _, _, _, _, _, _, _ => none
  | k_ + 1, v1, v2, v3, v4, v5, v6, H => if v6 < 5 then
    (r119_l1 app (fun v1_ v2_ v3_ v4_ v5_ v6_ H_ => r119_l0 app k_ v1_ v2_ v3_ v4_ v5_ v6_ H_) FUEL v1 v2 v3 v4 v5 v6 H)
  else
    (some (false, H))
noncomputable def r119 (app : App) (a0 : Sl) (a1 : Int) (a2 : Int) (a3 : AV) (H : Hp) : Option (Bool × Hp) :=
  r119_l0 app FUEL a0 a1 a2 a3 (w64 (a1 + 1)) 0 H
/- 120 slices.partitionEqualCmpFunc[congou/cuts.Point] -/
def ret120 : Int → AV := fun r => .int .i64 r
noncomputable def r120_j4 (app : App) (kt0 : Sl → Int → AV → Int → Int → Hp → Option (Int × Hp)) (kt2 : Sl → Int → AV → Int → Int → Hp → Option (Int × Hp)) (v1 : Sl) (v2 : Int) (v3 : AV) (v4 : Int) (v5 : Int) (v6 : Bool) (H : Hp) : Option (Int × Hp) :=
  if v6 = true then
    (kt2 v1 v2 v3 v4 (w64 (v5 - 1)) H)
  else
    (if v5 < v4 then
      (some (v4, H))
    else
      (ck ((0 : Int) ≤ v5 ∧ v5 < (v1.len : Int)) (
      (H.ldI .i64 v1.b (v1.o + (v5 : Int).toNat * 4)).bind fun x4 =>
      (H.ldI .i64 v1.b ((v1.o + (v5 : Int).toNat * 4) + 1)).bind fun x5 =>
      (H.ldI .i64 v1.b ((v1.o + (v5 : Int).toNat * 4) + 2)).bind fun x6 =>
      (H.ldI .i64 v1.b ((v1.o + (v5 : Int).toNat * 4) + 3)).bind fun x7 =>
      ck ((0 : Int) ≤ v4 ∧ v4 < (v1.len : Int)) (
      (H.ldI .i64 v1.b (v1.o + (v4 : Int).toNat * 4)).bind fun x9 =>
      (H.ldI .i64 v1.b ((v1.o + (v4 : Int).toNat * 4) + 1)).bind fun x10 =>
      (H.ldI .i64 v1.b ((v1.o + (v4 : Int).toNat * 4) + 2)).bind fun x11 =>
      (H.ldI .i64 v1.b ((v1.o + (v4 : Int).toNat * 4) + 3)).bind fun x12 =>
      ck ((0 : Int) ≤ v4 ∧ v4 < (v1.len : Int)) (
      (H.sts v1.b (v1.o + (v4 : Int).toNat * 4) [.int .i64 x4, .int .i64 x5, .int .i64 x6, .int .i64 x7]).bind fun H14 =>
      ck ((0 : Int) ≤ v5 ∧ v5 < (v1.len : Int)) (
      (H14.sts v1.b (v1.o + (v5 : Int).toNat * 4) [.int .i64 x9, .int .i64 x10, .int .i64 x11, .int .i64 x12]).bind fun H16 =>
      kt0 v1 v2 v3 (w64 (v4 + 1)) (w64 (v5 - 1)) H16))))))
noncomputable def r120_l2 (app : App) (kt0 : Sl → Int → AV → Int → Int → Hp → Option (Int × Hp)) : Nat → Sl → Int → AV → Int → Int → Hp → Option (Int × Hp)
  | 0, _, _, _, _, _, _ => none
  | k_ + 1, v1, v2, v3, v4, v5, H => if v4 ≤ v5 then
    (ck ((0 : Int) ≤ v2 ∧ v2 < (v1.len : Int)) (
    (H.ldI .i64 v1.b (v1.o + (v2 : Int).toNat * 4)).bind fun x3 =>
    (H.ldI .i64 v1.b ((v1.o + (v2 : Int).toNat * 4) + 1)).bind fun x4 =>
    (H.ldI .i64 v1.b ((v1.o + (v2 : Int).toNat * 4) + 2)).bind fun x5 =>
    (H.ldI .i64 v1.b ((v1.o + (v2 : Int).toNat * 4) + 3)).bind fun x6 =>
    ck ((0 : Int) ≤ v5 ∧ v5 < (v1.len : Int)) (
    (H.ldI .i64 v1.b (v1.o + (v5 : Int).toNat * 4)).bind fun x8 =>
    (H.ldI .i64 v1.b ((v1.o + (v5 : Int).toNat * 4) + 1)).bind fun x9 =>
    (H.ldI .i64 v1.b ((v1.o + (v5 : Int).toNat * 4) + 2)).bind fun x10 =>
    (H.ldI .i64 v1.b ((v1.o + (v5 : Int).toNat * 4) + 3)).bind fun x11 =>
    (callv app v3 [.agg [.int .i64 x3, .int .i64 x4, .int .i64 x5, .int .i64 x6], .agg [.int .i64 x8, .int .i64 x9, .int .i64 x10, .int .i64 x11]] H).bind fun p12 =>
    (p12.1.asI .i64).bind fun x13 =>
    r120_j4 app kt0 (fun v1_ v2_ v3_ v4_ v5_ H_ => r120_l2 app kt0 k_ v1_ v2_ v3_ v4_ v5_ H_) v1 v2 v3 v4 v5 (decide (x13 < 0)) p12.2)))
  else
    (r120_j4 app kt0 (fun v1_ v2_ v3_ v4_ v5_ H_ => r120_l2 app kt0 k_ v1_ v2_ v3_ v4_ v5_ H_) v1 v2 v3 v4 v5 false H)
noncomputable def r120_j3 (app : App) (kt0 : Sl → Int → AV → Int → Int → Hp → Option (Int × Hp)) (kt1 : Sl → Int → AV → Int → Int → Hp → Option (Int × Hp)) (v1 : Sl) (v2 : Int) (v3 : AV) (v4 : Int) (v5 : Int) (v6 : Bool) (H : Hp) : Option (Int × Hp) :=
  if v6 = true then
    (kt1 v1 v2 v3 (w64 (v4 + 1)) v5 H)
  else
    (r120_l2 app kt0 FUEL v1 v2 v3 v4 v5 H)
noncomputable def r120_l1 (app : App) (kt0 : Sl → Int → AV → Int → Int → Hp → Option (Int × Hp)) : Nat → Sl → Int → AV → Int → Int → Hp → Option (Int × Hp)
  | 0, _, _, _, _, _, _ => none
  | k_ + 1, v1, v2, v3, v4, v5, H => if v4 ≤ v5 then
    (ck ((0 : Int) ≤ v2 ∧ v2 < (v1.len : Int)) (
    (H.ldI .i64 v1.b (v1.o + (v2 : Int).toNat * 4)).bind fun x3 =>
    (H.ldI .i64 v1.b ((v1.o + (v2 : Int).toNat * 4) + 1)).bind fun x4 =>
    (H.ldI .i64 v1.b ((v1.o + (v2 : Int).toNat * 4) + 2)).bind fun x5 =>
    (H.ldI .i64 v1.b ((v1.o + (v2 : Int).toNat * 4) + 3)).bind fun x6 =>
    ck ((0 : Int) ≤ v4 ∧ v4 < (v1.len : Int)) (
    (H.ldI .i64 v1.b (v1.o + (v4 : Int).toNat * 4)).bind fun x8 =>
    (H.ldI .i64 v1.b ((v1.o + (v4 : Int).toNat * 4) + 1)).bind fun x9 =>
    (H.ldI .i64 v1.b ((v1.o + (v4 : Int).toNat * 4) + 2)).bind fun x10 =>
    (H.ldI .i64 v1.b ((v1.o + (v4 : Int).toNat * 4) + 3)).bind fun x11 =>
    (callv app v3 [.agg [.int .i64 x3, .int .i64 x4, .int .i64 x5, .int .i64 x6], .agg [.int .i64 x8, .int .i64 x9, .int .i64 x10, .int .i64 x11]] H).bind fun p12 =>
    (p12.1.asI .i64).bind fun x13 =>
    r120_j3 app kt0 (fun v1_ v2_ v3_ v4_ v5_ H_ => r120_l1 app kt0 k_ v1_ v2_ v3_ v4_ v5_ H_) v1 v2 v3 v4 v5 (!(decide (x13 < 0))) p12.2)))
  else
    (r120_j3 app kt0 (fun v1_ v2_ v3_ v4_ v5_ H_ => r120_l1 app kt0 k_ v1_ v2_ v3_ v4_ v5_ H_) v1 v2 v3 v4 v5 false H)
noncomputable def r120_l0 (app : App) : Nat → Sl → Int → AV → Int → Int → Hp → Option (Int × Hp)
  | 0, _, _, _, _, _, _ => none
  | k_ + 1, v1, v2, v3, v4, v5, H => r120_l1 app (fun v1_ v2_ v3_ v4_ v5_ H_ => r120_l0 app k_ v1_ v2_ v3_ v4_ v5_ H_) FUEL v1 v2 v3 v4 v5 H
noncomputable def r120 (app : App) (a0 : Sl) (a1 : Int) (a2 : Int) (a3 : Int) (a4 : AV) (H : Hp) : Option (Int × Hp) :=
  ck ((0 : Int) ≤ a3 ∧ a3 < (a0.len : Int)) (
  (H.ldI .i64 a0.b (a0.o + (a3 : Int).toNat * 4)).bind fun x2 =>
  (H.ldI .i64 a0.b ((a0.o + (a3 : Int).toNat * 4) + 1)).bind fun x3 =>
  (H.ldI .i64 a0.b ((a0.o + (a3 : Int).toNat * 4) + 2)).bind fun x4 =>
  (H.ldI .i64 a0.b ((a0.o + (a3 : Int).toNat * 4) + 3)).bind fun x5 =>
  ck ((0 : Int) ≤ a1 ∧ a1 < (a0.len : Int)) (
  (H.ldI .i64 a0.b (a0.o + (a1 : Int).toNat * 4)).bind fun x7 =>
  (H.ldI .i64 a0.b ((a0.o + (a1 : Int).toNat * 4) + 1)).bind fun x8 =>
  (H.ldI .i64 a0.b ((a0.o + (a1 : Int).toNat * 4) + 2)).bind fun x9 =>
  (H.ldI .i64 a0.b ((a0.o + (a1 : Int).toNat * 4) + 3)).bind fun x10 =>
  ck ((0 : Int) ≤ a1 ∧ a1 < (a0.len : Int)) (
  (H.sts a0.b (a0.o + (a1 : Int).toNat * 4) [.int .i64 x2, .int .i64 x3, .int .i64 x4, .int .i64 x5]).bind fun H12 =>
  ck ((0 : Int) ≤ a3 ∧ a3 < (a0.len : Int)) (
  (H12.sts a0.b (a0.o + (a3 : Int).toNat * 4) [.int .i64 x7, .int .i64 x8, .int .i64 x9, .int .i64 x10]).bind fun H14 =>
  r120_l0 app FUEL a0 a1 a4 (w64 (a1 + 1)) (w64 (a2 - 1)) H14))))
/- 121 slices.partitionCmpFunc[congou/cuts.Point] -/
def ret121 : Int × Bool → AV := fun r => .tup [.int .i64 r.1, .bool r.2]
noncomputable def r121_j8 (app : App) (kt3 : Sl → Int → AV → Int → Int → Hp → Option ((Int × Bool) × Hp)) (kt6 : Sl → Int → AV → Int → Int → Hp → Option ((Int × Bool) × Hp)) (v1 : Sl) (v2 : Int) (v3 : AV) (v4 : Int) (v5 : Int) (v6 : Bool) (H : Hp) : Option ((Int × Bool) × Hp) :=
  if v6 = true then
    (kt6 v1 v2 v3 v4 (w64 (v5 - 1)) H)
  else
    (if v5 < v4 then
      (ck ((0 : Int) ≤ v2 ∧ v2 < (v1.len : Int)) (
      (H.ldI .i64 v1.b (v1.o + (v2 : Int).toNat * 4)).bind fun x4 =>
      (H.ldI .i64 v1.b ((v1.o + (v2 : Int).toNat * 4) + 1)).bind fun x5 =>
      (H.ldI .i64 v1.b ((v1.o + (v2 : Int).toNat * 4) + 2)).bind fun x6 =>
      (H.ldI .i64 v1.b ((v1.o + (v2 : Int).toNat * 4) + 3)).bind fun x7 =>
      ck ((0 : Int) ≤ v5 ∧ v5 < (v1.len : Int)) (
      (H.ldI .i64 v1.b (v1.o + (v5 : Int).toNat * 4)).bind fun x9 =>
      (H.ldI .i64 v1.b ((v1.o + (v5 : Int).toNat * 4) + 1)).bind fun x10 =>
      (H.ldI .i64 v1.b ((v1.o + (v5 : Int).toNat * 4) + 2)).bind fun x11 =>
      (H.ldI .i64 v1.b ((v1.o + (v5 : Int).toNat * 4) + 3)).bind fun x12 =>
      ck ((0 : Int) ≤ v5 ∧ v5 < (v1.len : Int)) (
      (H.sts v1.b (v1.o + (v5 : Int).toNat * 4) [.int .i64 x4, .int .i64 x5, .int .i64 x6, .int .i64 x7]).bind fun H14 =>
      ck ((0 : Int) ≤ v2 ∧ v2 < (v1.len : Int)) (
      (H14.sts v1.b (v1.o + (v2 : Int).toNat * 4) [.int .i64 x9, .int .i64 x10, .int .i64 x11, .int .i64 x12]).bind fun H16 =>
      some ((v5, false), H16))))))
    else
      (ck ((0 : Int) ≤ v5 ∧ v5 < (v1.len : Int)) (
      (H.ldI .i64 v1.b (v1.o + (v5 : Int).toNat * 4)).bind fun x18 =>
      (H.ldI .i64 v1.b ((v1.o + (v5 : Int).toNat * 4) + 1)).bind fun x19 =>
      (H.ldI .i64 v1.b ((v1.o + (v5 : Int).toNat * 4) + 2)).bind fun x20 =>
      (H.ldI .i64 v1.b ((v1.o + (v5 : Int).toNat * 4) + 3)).bind fun x21 =>
      ck ((0 : Int) ≤ v4 ∧ v4 < (v1.len : Int)) (
      (H.ldI .i64 v1.b (v1.o + (v4 : Int).toNat * 4)).bind fun x23 =>
      (H.ldI .i64 v1.b ((v1.o + (v4 : Int).toNat * 4) + 1)).bind fun x24 =>
      (H.ldI .i64 v1.b ((v1.o + (v4 : Int).toNat * 4) + 2)).bind fun x25 =>
      (H.ldI .i64 v1.b ((v1.o + (v4 : Int).toNat * 4) + 3)).bind fun x26 =>
      ck ((0 : Int) ≤ v4 ∧ v4 < (v1.len : Int)) (
      (H.sts v1.b (v1.o + (v4 : Int).toNat * 4) [.int .i64 x18, .int .i64 x19, .int .i64 x20, .int .i64 x21]).bind fun H28 =>
      ck ((0 : Int) ≤ v5 ∧ v5 < (v1.len : Int)) (
      (H28.sts v1.b (v1.o + (v5 : Int).toNat * 4) [.int .i64 x23, .int .i64 x24, .int .i64 x25, .int .i64 x26]).bind fun H30 =>
      kt3 v1 v2 v3 (w64 (v4 + 1)) (w64 (v5 - 1)) H30))))))
noncomputable def r121_l6 (app : App) (kt3 : Sl → Int → AV → Int → Int → Hp → Option ((Int × Bool) × Hp)) : Nat → Sl → Int → AV → Int → Int → Hp → Option ((Int × Bool) × Hp)
  | 0, _, _, _, _, _, _ => none
  | k_ + 1, v1, v2, v3, v4, v5, H => if v4 ≤ v5 then
    (ck ((0 : Int) ≤ v5 ∧ v5 < (v1.len : Int)) (
    (H.ldI .i64 v1.b (v1.o + (v5 : Int).toNat * 4)).bind fun x3 =>
    (H.ldI .i64 v1.b ((v1.o + (v5 : Int).toNat * 4) + 1)).bind fun x4 =>
    (H.ldI .i64 v1.b ((v1.o + (v5 : Int).toNat * 4) + 2)).bind fun x5 =>
    (H.ldI .i64 v1.b ((v1.o + (v5 : Int).toNat * 4) + 3)).bind fun x6 =>
    ck ((0 : Int) ≤ v2 ∧ v2 < (v1.len : Int)) (
    (H.ldI .i64 v1.b (v1.o + (v2 : Int).toNat * 4)).bind fun x8 =>
    (H.ldI .i64 v1.b ((v1.o + (v2 : Int).toNat * 4) + 1)).bind fun x9 =>
    (H.ldI .i64 v1.b ((v1.o + (v2 : Int).toNat * 4) + 2)).bind fun x10 =>
    (H.ldI .i64 v1.b ((v1.o + (v2 : Int).toNat * 4) + 3)).bind fun x11 =>
    (callv app v3 [.agg [.int .i64 x3, .int .i64 x4, .int .i64 x5, .int .i64 x6], .agg [.int .i64 x8, .int .i64 x9, .int .i64 x10, .int .i64 x11]] H).bind fun p12 =>
    (p12.1.asI .i64).bind fun x13 =>
    r121_j8 app kt3 (fun v1_ v2_ v3_ v4_ v5_ H_ => r121_l6 app kt3 k_ v1_ v2_ v3_ v4_ v5_ H_) v1 v2 v3 v4 v5 (!(decide (x13 < 0))) p12.2)))
  else
    (r121_j8 app kt3 (fun v1_ v2_ v3_ v4_ v5_ H_ => r121_l6 app kt3 k_ v1_ v2_ v3_ v4_ v5_ H_) v1 v2 v3 v4 v5 false H)
noncomputable def r121_j7 (app : App) (kt3 : Sl → Int → AV → Int → Int → Hp → Option ((Int × Bool) × Hp)) (kt5 : Sl → Int → AV → Int → Int → Hp → Option ((Int × Bool) × Hp)) (v1 : Sl) (v2 : Int) (v3 : AV) (v4 : Int) (v5 : Int) (v6 : Bool) (H : Hp) : Option ((Int × Bool) × Hp) :=
  if v6 = true then
    (kt5 v1 v2 v3 (w64 (v4 + 1)) v5 H)
  else
    (r121_l6 app kt3 FUEL v1 v2 v3 v4 v5 H)
noncomputable def r121_l5 (app : App) (kt3 : Sl → Int → AV → Int → Int → Hp → Option ((Int × Bool) × Hp)) : Nat → Sl → Int → AV → Int → Int → Hp → Option ((Int × Bool) × Hp)
  | 0, _, _, _, _, _, _ => none
  | k_ + 1, v1, v2, v3, v4, v5, H => if v4 ≤ v5 then
    (ck ((0 : Int) ≤ v4 ∧ v4 < (v1.len : Int)) (
    (H.ldI .i64 v1.b (v1.o + (v4 : Int).toNat * 4)).bind fun x3 =>
    (H.ldI .i64 v1.b ((v1.o + (v4 : Int).toNat * 4) + 1)).bind fun x4 =>
    (H.ldI .i64 v1.b ((v1.o + (v4 : Int).toNat * 4) + 2)).bind fun x5 =>
    (H.ldI .i64 v1.b ((v1.o + (v4 : Int).toNat * 4) + 3)).bind fun x6 =>
    ck ((0 : Int) ≤ v2 ∧ v2 < (v1.len : Int)) (
    (H.ldI .i64 v1.b (v1.o + (v2 : Int).toNat * 4)).bind fun x8 =>
    (H.ldI .i64 v1.b ((v1.o + (v2 : Int).toNat * 4) + 1)).bind fun x9 =>
    (H.ldI .i64 v1.b ((v1.o + (v2 : Int).toNat * 4) + 2)).bind fun x10 =>
    (H.ldI .i64 v1.b ((v1.o + (v2 : Int).toNat * 4) + 3)).bind fun x11 =>
    (callv app v3 [.agg [.int .i64 x3, .int .i64 x4, .int .i64 x5, .int .i64 x6], .agg [.int .i64 x8, .int .i64 x9, .int .i64 x10, .int .i64 x11]] H).bind fun p12 =>
    (p12.1.asI .i64).bind fun x13 =>
    r121_j7 app kt3 (fun v1_ v2_ v3_ v4_ v5_ H_ => r121_l5 app kt3 k_ v1_ v2_ v3_ v4_ v5_ H_) v1 v2 v3 v4 v5 (decide (x13 < 0)) p12.2)))
  else
    (r121_j7 app kt3 (fun v1_ v2_ v3_ v4_ v5_ H_ => r121_l5 app kt3 k_ v1_ v2_ v3_ v4_ v5_ H_) v1 v2 v3 v4 v5 false H)
noncomputable def r121_l3 (app : App) : Nat → Sl → Int → AV → Int → Int → Hp → Option ((Int × Bool) × Hp)
  | 0, _, _, _, _, _, _ => none
  | k_ + 1, v1, v2, v3, v4, v5, H => r121_l5 app (fun v1_ v2_ v3_ v4_ v5_ H_ => r121_l3 app k_ v1_ v2_ v3_ v4_ v5_ H_) FUEL v1 v2 v3 v4 v5 H
noncomputable def r121_j4 (app : App) (kt1 : Sl → Int → AV → Int → Int → Hp → Option ((Int × Bool) × Hp)) (v1 : Sl) (v2 : Int) (v3 : AV) (v4 : Int) (v5 : Int) (v6 : Bool) (H : Hp) : Option ((Int × Bool) × Hp) :=
  if v6 = true then
    (kt1 v1 v2 v3 v4 (w64 (v5 - 1)) H)
  else
    (if v5 < v4 then
      (ck ((0 : Int) ≤ v2 ∧ v2 < (v1.len : Int)) (
      (H.ldI .i64 v1.b (v1.o + (v2 : Int).toNat * 4)).bind fun x4 =>
      (H.ldI .i64 v1.b ((v1.o + (v2 : Int).toNat * 4) + 1)).bind fun x5 =>
      (H.ldI .i64 v1.b ((v1.o + (v2 : Int).toNat * 4) + 2)).bind fun x6 =>
      (H.ldI .i64 v1.b ((v1.o + (v2 : Int).toNat * 4) + 3)).bind fun x7 =>
      ck ((0 : Int) ≤ v5 ∧ v5 < (v1.len : Int)) (
      (H.ldI .i64 v1.b (v1.o + (v5 : Int).toNat * 4)).bind fun x9 =>
      (H.ldI .i64 v1.b ((v1.o + (v5 : Int).toNat * 4) + 1)).bind fun x10 =>
      (H.ldI .i64 v1.b ((v1.o + (v5 : Int).toNat * 4) + 2)).bind fun x11 =>
      (H.ldI .i64 v1.b ((v1.o + (v5 : Int).toNat * 4) + 3)).bind fun x12 =>
      ck ((0 : Int) ≤ v5 ∧ v5 < (v1.len : Int)) (
      (H.sts v1.b (v1.o + (v5 : Int).toNat * 4) [.int .i64 x4, .int .i64 x5, .int .i64 x6, .int .i64 x7]).bind fun H14 =>
      ck ((0 : Int) ≤ v2 ∧ v2 < (v1.len : Int)) (
      (H14.sts v1.b (v1.o + (v2 : Int).toNat * 4) [.int .i64 x9, .int .i64 x10, .int .i64 x11, .int .i64 x12]).bind fun H16 =>
      some ((v5, true), H16))))))
    else
      (ck ((0 : Int) ≤ v5 ∧ v5 < (v1.len : Int)) (
      (H.ldI .i64 v1.b (v1.o + (v5 : Int).toNat * 4)).bind fun x18 =>
      (H.ldI .i64 v1.b ((v1.o + (v5 : Int).toNat * 4) + 1)).bind fun x19 =>
      (H.ldI .i64 v1.b ((v1.o + (v5 : Int).toNat * 4) + 2)).bind fun x20 =>
      (H.ldI .i64 v1.b ((v1.o + (v5 : Int).toNat * 4) + 3)).bind fun x21 =>
      ck ((0 : Int) ≤ v4 ∧ v4 < (v1.len : Int)) (
      (H.ldI .i64 v1.b (v1.o + (v4 : Int).toNat * 4)).bind fun x23 =>
      (H.ldI .i64 v1.b ((v1.o + (v4 : Int).toNat * 4) + 1)).bind fun x24 =>
      (H.ldI .i64 v1.b ((v1.o + (v4 : Int).toNat * 4) + 2)).bind fun x25 =>
      (H.ldI .i64 v1.b ((v1.o + (v4 : Int).toNat * 4) + 3)).bind fun x26 =>
      ck ((0 : Int) ≤ v4 ∧ v4 < (v1.len : Int)) (
      (H.sts v1.b (v1.o + (v4 : Int).toNat * 4) [.int .i64 x18, .int .i64 x19, .int .i64 x20, .int .i64 x21]).bind fun H28 =>
      ck ((0 : Int) ≤ v5 ∧ v5 < (v1.len : Int)) (
      (H28.sts v1.b (v1.o + (v5 : Int).toNat * 4) [.int .i64 x23, .int .i64 x24, .int .i64 x25, .int .i64 x26]).bind fun H30 =>
      r121_l3 app FUEL v1 v2 v3 (w64 (v4 + 1)) (w64 (v5 - 1)) H30))))))
noncomputable def r121_l1 (app : App) : Nat → Sl → Int → AV → Int → Int → Hp → Option ((Int × Bool) × Hp)
  | 0, _, _, _, _, _, _ => none
  | k_ + 1, v1, v2, v3, v4, v5, H => if v4 ≤ v5 then
    (ck ((0 : Int) ≤ v5 ∧ v5 < (v1.len : Int)) (
    (H.ldI .i64 v1.b (v1.o + (v5 : Int).toNat * 4)).bind fun x3 =>
    (H.ldI .i64 v1.b ((v1.o + (v5 : Int).toNat * 4) + 1)).bind fun x4 =>
    (H.ldI .i64 v1.b ((v1.o + (v5 : Int).toNat * 4) + 2)).bind fun x5 =>
    (H.ldI .i64 v1.b ((v1.o + (v5 : Int).toNat * 4) + 3)).bind fun x6 =>
    ck ((0 : Int) ≤ v2 ∧ v2 < (v1.len : Int)) (
    (H.ldI .i64 v1.b (v1.o + (v2 : Int).toNat * 4)).bind fun x8 =>
    (H.ldI .i64 v1.b ((v1.o + (v2 : Int).toNat * 4) + 1)).bind fun x9 =>
    (H.ldI .i64 v1.b ((v1.o + (v2 : Int).toNat * 4) + 2)).bind fun x10 =>
    (H.ldI .i64 v1.b ((v1.o + (v2 : Int).toNat * 4) + 3)).bind fun x11 =>
    (callv app v3 [.agg [.int .i64 x3, .int .i64 x4, .int .i64 x5, .int .i64 x6], .agg [.int .i64 x8, .int .i64 x9, .int .i64 x10, .int .i64 x11]] H).bind fun p12 =>
    (p12.1.asI .i64).bind fun x13 =>
    r121_j4 app (fun v1_ v2_ v3_ v4_ v5_ H_ => r121_l1 app k_ v1_ v2_ v3_ v4_ v5_ H_) v1 v2 v3 v4 v5 (!(decide (x13 < 0))) p12.2)))
  else
    (r121_j4 app (fun v1_ v2_ v3_ v4_ v5_ H_ => r121_l1 app k_ v1_ v2_ v3_ v4_ v5_ H_) v1 v2 v3 v4 v5 false H)
noncomputable def r121_j2 (app : App) (kt0 : Sl → Int → AV → Int → Int → Hp → Option ((Int × Bool) × Hp)) (v1 : Sl) (v2 : Int) (v3 : AV) (v4 : Int) (v5 : Int) (v6 : Bool) (H : Hp) : Option ((Int × Bool) × Hp) :=
  if v6 = true then
    (kt0 v1 v2 v3 (w64 (v4 + 1)) v5 H)
  else
    (r121_l1 app FUEL v1 v2 v3 v4 v5 H)
noncomputable def r121_l0 (app : App) : Nat → Sl → Int → AV → Int → Int → Hp → Option ((Int × Bool) × Hp)
  | 0, _, _, _, _, _, _ => none
  | k_ + 1, v1, v2, v3, v4, v5, H => if v4 ≤ v5 then
    (ck ((0 : Int) ≤ v4 ∧ v4 < (v1.len : Int)) (
    (H.ldI .i64 v1.b (v1.o + (v4 : Int).toNat * 4)).bind fun x3 =>
    (H.ldI .i64 v1.b ((v1.o + (v4 : Int).toNat * 4) + 1)).bind fun x4 =>
    (H.ldI .i64 v1.b ((v1.o + (v4 : Int).toNat * 4) + 2)).bind fun x5 =>
    (H.ldI .i64 v1.b ((v1.o + (v4 : Int).toNat * 4) + 3)).bind fun x6 =>
    ck ((0 : Int) ≤ v2 ∧ v2 < (v1.len : Int)) (
    (H.ldI .i64 v1.b (v1.o + (v2 : Int).toNat * 4)).bind fun x8 =>
    (H.ldI .i64 v1.b ((v1.o + (v2 : Int).toNat * 4) + 1)).bind fun x9 =>
    (H.ldI .i64 v1.b ((v1.o + (v2 : Int).toNat * 4) + 2)).bind fun x10 =>
    (H.ldI .i64 v1.b ((v1.o + (v2 : Int).toNat * 4) + 3)).bind fun x11 =>
    (callv app v3 [.agg [.int .i64 x3, .int .i64 x4, .int .i64 x5, .int .i64 x6], .agg [.int .i64 x8, .int .i64 x9, .int .i64 x10, .int .i64 x11]] H).bind fun p12 =>
    (p12.1.asI .i64).bind fun x13 =>
    r121_j2 app (fun v1_ v2_ v3_ v4_ v5_ H_ => r121_l0 app k_ v1_ v2_ v3_ v4_ v5_ H_) v1 v2 v3 v4 v5 (decide (x13 < 0)) p12.2)))
  else
    (r121_j2 app (fun v1_ v2_ v3_ v4_ v5_ H_ => r121_l0 app k_ v1_ v2_ v3_ v4_ v5_ H_) v1 v2 v3 v4 v5 false H)
noncomputable def r121 (app : App) (a0 : Sl) (a1 : Int) (a2 : Int) (a3 : Int) (a4 : AV) (H : Hp) : Option ((Int × Bool) × Hp) :=
  ck ((0 : Int) ≤ a3 ∧ a3 < (a0.len : Int)) (
  (H.ldI .i64 a0.b (a0.o + (a3 : Int).toNat * 4)).bind fun x2 =>
  (H.ldI .i64 a0.b ((a0.o + (a3 : Int).toNat * 4) + 1)).bind fun x3 =>
  (H.ldI .i64 a0.b ((a0.o + (a3 : Int).toNat * 4) + 2)).bind fun x4 =>
  (H.ldI .i64 a0.b ((a0.o + (a3 : Int).toNat * 4) + 3)).bind fun x5 =>
  ck ((0 : Int) ≤ a1 ∧ a1 < (a0.len : Int)) (
  (H.ldI .i64 a0.b (a0.o + (a1 : Int).toNat * 4)).bind fun x7 =>
  (H.ldI .i64 a0.b ((a0.o + (a1 : Int).toNat * 4) + 1)).bind fun x8 =>
  (H.ldI .i64 a0.b ((a0.o + (a1 : Int).toNat * 4) + 2)).bind fun x9 =>
  (H.ldI .i64 a0.b ((a0.o + (a1 : Int).toNat * 4) + 3)).bind fun x10 =>
  ck ((0 : Int) ≤ a1 ∧ a1 < (a0.len : Int)) (
  (H.sts a0.b (a0.o + (a1 : Int).toNat * 4) [.int .i64 x2, .int .i64 x3, .int .i64 x4, .int .i64 x5]).bind fun H12 =>
  ck ((0 : Int) ≤ a3 ∧ a3 < (a0.len : Int)) (
  (H12.sts a0.b (a0.o + (a3 : Int).toNat * 4) [.int .i64 x7, .int .i64 x8, .int .i64 x9, .int .i64 x10]).bind fun H14 =>
  r121_l0 app FUEL a0 a1 a4 (w64 (a1 + 1)) (w64 (a2 - 1)) H14))))
/- 108 slices.pdqsortCmpFunc[congou/cuts.Point] -/
def ret108 : Unit → AV := fun _ => .tup []
noncomputable def r108_j1 (app : App) (kt0 : Sl → Int → Int → Int → AV → Bool → Bool → Hp → Option (Unit × Hp)) (v1 : Sl) (v2 : Int) (v3 : Int) (v4 : Int) (v5 : AV) (v6 : Bool) (v7 : Bool) (v8 : Int) (v9 : Int) (v10 : Bool) (H : Hp) : Option (Unit × Hp) :=
  if v10 = true then
    ((r120 app v1 v2 v3 v9 v5 H).bind fun p2 =>
    kt0 v1 p2.1 v3 v4 v5 v6 v7 p2.2)
  else
    ((r121 app v1 v2 v3 v9 v5 H).bind fun p3 =>
    if (w64 (p3.1.1 - v2)) < (w64 (v3 - p3.1.1)) then
      ((app 108 [.sl v1, .int .i64 v2, .int .i64 p3.1.1, .int .i64 v4, v5] p3.2).bind fun p5 =>
      kt0 v1 (w64 (p3.1.1 + 1)) v3 v4 v5 (decide ((w64 (Int.tdiv v8 8)) ≤ (w64 (p3.1.1 - v2)))) p3.1.2 p5.2)
    else
      ((app 108 [.sl v1, .int .i64 (w64 (p3.1.1 + 1)), .int .i64 v3, .int .i64 v4, v5] p3.2).bind fun p6 =>
      kt0 v1 v2 p3.1.1 v4 v5 (decide ((w64 (Int.tdiv v8 8)) ≤ (w64 (v3 - p3.1.1)))) p3.1.2 p6.2))
noncomputable def r108_j2 (app : App) (kt0 : Sl → Int → Int → Int → AV → Bool → Bool → Hp → Option (Unit × Hp)) (v1 : Sl) (v2 : Int) (v3 : Int) (v4 : Int) (v5 : AV) (v6 : Bool) (v7 : Bool) (v8 : Int) (v9 : Int) (H : Hp) : Option (Unit × Hp) :=
  if 0 < v2 then
    (ck ((0 : Int) ≤ (w64 (v2 - 1)) ∧ (w64 (v2 - 1)) < (v1.len : Int)) (
    (H.ldI .i64 v1.b (v1.o + (w64 (v2 - 1) : Int).toNat * 4)).bind fun x3 =>
    (H.ldI .i64 v1.b ((v1.o + (w64 (v2 - 1) : Int).toNat * 4) + 1)).bind fun x4 =>
    (H.ldI .i64 v1.b ((v1.o + (w64 (v2 - 1) : Int).toNat * 4) + 2)).bind fun x5 =>
    (H.ldI .i64 v1.b ((v1.o + (w64 (v2 - 1) : Int).toNat * 4) + 3)).bind fun x6 =>
    ck ((0 : Int) ≤ v9 ∧ v9 < (v1.len : Int)) (
    (H.ldI .i64 v1.b (v1.o + (v9 : Int).toNat * 4)).bind fun x8 =>
    (H.ldI .i64 v1.b ((v1.o + (v9 : Int).toNat * 4) + 1)).bind fun x9 =>
    (H.ldI .i64 v1.b ((v1.o + (v9 : Int).toNat * 4) + 2)).bind fun x10 =>
    (H.ldI .i64 v1.b ((v1.o + (v9 : Int).toNat * 4) + 3)).bind fun x11 =>
    (callv app v5 [.agg [.int .i64 x3, .int .i64 x4, .int .i64 x5, .int .i64 x6], .agg [.int .i64 x8, .int .i64 x9, .int .i64 x10, .int .i64 x11]] H).bind fun p12 =>
    (p12.1.asI .i64).bind fun x13 =>
    r108_j1 app kt0 v1 v2 v3 v4 v5 v6 v7 v8 v9 (!(decide (x13 < 0))) p12.2)))
  else
    (r108_j1 app kt0 v1 v2 v3 v4 v5 v6 v7 v8 v9 false H)
noncomputable def r108_j3 (app : App) (kt0 : Sl → Int → Int → Int → AV → Bool → Bool → Hp → Option (Unit × Hp)) (v1 : Sl) (v2 : Int) (v3 : Int) (v4 : Int) (v5 : AV) (v6 : Bool) (v7 : Bool) (v8 : Int) (v9 : Int) (v10 : Bool) (H : Hp) : Option (Unit × Hp) :=
  if v10 = true then
    ((r119 app v1 v2 v3 v5 H).bind fun p2 =>
    if p2.1 = true then
      (some ((), p2.2))
    else
      (r108_j2 app kt0 v1 v2 v3 v4 v5 v6 v7 v8 v9 p2.2))
  else
    (r108_j2 app kt0 v1 v2 v3 v4 v5 v6 v7 v8 v9 H)
noncomputable def r108_j4 (app : App) (kt0 : Sl → Int → Int → Int → AV → Bool → Bool → Hp → Option (Unit × Hp)) (v1 : Sl) (v2 : Int) (v3 : Int) (v4 : Int) (v5 : AV) (v6 : Bool) (v7 : Bool) (v8 : Int) (v9 : Int) (v10 : Int) (H : Hp) : Option (Unit × Hp) :=
  if v6 = true then
    (if v7 = true then
      (r108_j3 app kt0 v1 v2 v3 v4 v5 true true v8 v9 (decide (v10 = 1)) H)
    else
      (r108_j3 app kt0 v1 v2 v3 v4 v5 true false v8 v9 false H))
  else
    (r108_j3 app kt0 v1 v2 v3 v4 v5 false v7 v8 v9 false H)
noncomputable def r108_j5 (app : App) (kt0 : Sl → Int → Int → Int → AV → Bool → Bool → Hp → Option (Unit × Hp)) (v1 : Sl) (v2 : Int) (v3 : Int) (v4 : Int) (v5 : AV) (v6 : Bool) (v7 : Bool) (v8 : Int) (H : Hp) : Option (Unit × Hp) :=
  (r117 app v1 v2 v3 v5 H).bind fun p1 =>
  if p1.1.2 = 2 then
    ((r118 v1 v2 v3 v5 p1.2).bind fun p3 =>
    r108_j4 app kt0 v1 v2 v3 v4 v5 v6 v7 v8 (w64 ((w64 (v3 - 1)) - (w64 (p1.1.1 - v2)))) 1 p3.2)
  else
    (r108_j4 app kt0 v1 v2 v3 v4 v5 v6 v7 v8 p1.1.1 p1.1.2 p1.2)
noncomputable def r108_l0 (app : App) : Nat → Sl → Int → Int → Int → AV → Bool → Bool → Hp → Option (Unit × Hp)
  | 0, _, _, _, _, _, _, _, _ => none
  | k_ + 1, v1, v2, v3, v4, v5, v6, v7, H => if (w64 (v3 - v2)) ≤ 12 then
    ((r114 app v1 v2 v3 v5 H).bind fun p2 =>
    some ((), p2.2))
  else
    (if v4 = 0 then
      ((r115 app v1 v2 v3 v5 H).bind fun p4 =>
      some ((), p4.2))
    else
      (if v6 = true then
        (r108_j5 app (fun v1_ v2_ v3_ v4_ v5_ v6_ v7_ H_ => r108_l0 app k_ v1_ v2_ v3_ v4_ v5_ v6_ v7_ H_) v1 v2 v3 v4 v5 true v7 (w64 (v3 - v2)) H)
      else
        ((r116 v1 v2 v3 v5 H).bind fun p6 =>
        r108_j5 app (fun v1_ v2_ v3_ v4_ v5_ v6_ v7_ H_ => r108_l0 app k_ v1_ v2_ v3_ v4_ v5_ v6_ v7_ H_) v1 v2 v3 (w64 (v4 - 1)) v5 false v7 (w64 (v3 - v2)) p6.2)))
noncomputable def r108 (app : App) (a0 : Sl) (a1 : Int) (a2 : Int) (a3 : Int) (a4 : AV) (H : Hp) : Option (Unit × Hp) :=
  r108_l0 app FUEL a0 a1 a2 a3 a4 true true H
/- 86 slices.SortFunc[[]congou/cuts.Point,congou/cuts.Point] -/
def ret86 : Unit → AV := fun _ => .tup []
noncomputable def r86 (app : App) (a0 : Sl) (a1 : AV) (H : Hp) : Option (Unit × Hp) :=
  (r109 (IntKind.wrap .u64 ((a0.len : Int))) H).bind fun p1 =>
  (r108 app a0 0 (a0.len : Int) p1.1 a1 p1.2).bind fun p2 =>
  some ((), p2.2)
/- 88 cmp.Or[int] -/
def ret88 : Int → AV := fun r => .int .i64 r
noncomputable def r88_l0 : Nat → Int → Sl → Int → Int → Hp → Option (Int × Hp)
  | 0, _, _, _, _, _ => none
  | k_ + 1, v1, v2, v3, v4, H => if v4 < v3 then
    (ck ((0 : Int) ≤ v4 ∧ v4 < (v2.len : Int)) (
    (H.ldI .i64 v2.b (v2.o + (v4 : Int).toNat * 1)).bind fun x3 =>
    if x3 ≠ v1 then
      (some (x3, H))
    else
      (r88_l0 k_ v1 v2 v3 (w64 (v4 + 1)) H)))
  else
    (some (v1, H))
noncomputable def r88 (a0 : Sl) (H : Hp) : Option (Int × Hp) :=
  r88_l0 FUEL 0 a0 (a0.len : Int) 0 H
/- 87 congou/cuts.Corners$1 -/
def ret87 : Int → AV := fun r => .int .i64 r
noncomputable def r87 (a0_0 : Int) (a0_1 : Int) (a0_2 : Int) (a0_3 : Int) (a1_0 : Int) (a1_1 : Int) (a1_2 : Int) (a1_3 : Int) (H : Hp) : Option (Int × Hp) :=
  lt ((H.push (.cells [.int .i64 a0_0, .int .i64 a0_1, .int .i64 a0_2, .int .i64 a0_3] false)).push (.cells [.int .i64 a1_0, .int .i64 a1_1, .int .i64 a1_2, .int .i64 a1_3] false)) fun H1 =>
  (H1.ldI .i64 H.n (0 + 0)).bind fun x2 =>
  (H1.ldI .i64 H.n ((0 + 0) + 1)).bind fun x3 =>
  (H1.ldI .i64 ((H.push (.cells [.int .i64 a0_0, .int .i64 a0_1, .int .i64 a0_2, .int .i64 a0_3] false)).n) (0 + 0)).bind fun x4 =>
  (H1.ldI .i64 ((H.push (.cells [.int .i64 a0_0, .int .i64 a0_1, .int .i64 a0_2, .int .i64 a0_3] false)).n) ((0 + 0) + 1)).bind fun x5 =>
  (r89 x2 x3 x4 x5 H0).bind fun p6 =>
  (H1.ldI .i64 H.n (0 + 2)).bind fun x7 =>
  (H1.ldI .i64 H.n ((0 + 2) + 1)).bind fun x8 =>
  (H1.ldI .i64 ((H.push (.cells [.int .i64 a0_0, .int .i64 a0_1, .int .i64 a0_2, .int .i64 a0_3] false)).n) (0 + 2)).bind fun x9 =>
  (H1.ldI .i64 ((H.push (.cells [.int .i64 a0_0, .int .i64 a0_1, .int .i64 a0_2, .int .i64 a0_3] false)).n) ((0 + 2) + 1)).bind fun x10 =>
  (r89 x7 x8 x9 x10 H0).bind fun p11 =>
  (r88 ⟨false, H1.n, 0, 2, 2, 0⟩ (H1.push (.cells [.int .i64 p6.1, .int .i64 p11.1] false))).bind fun p12 =>
  some (p12.1, p12.2)
/- 90 slices.Compact[[]congou/cuts.Point,congou/cuts.Point] -/
def ret90 : Sl → AV := fun r => .sl r
noncomputable def r90_l1 : Nat → Sl → Int → Sl → Int → Hp → Option (Sl × Hp)
  | 0, _, _, _, _, _ => none
  | k_ + 1, v1, v2, v3, v4, H => if v4 < (v3.len : Int) then
    (ck ((0 : Int) ≤ v4 ∧ v4 < (v3.len : Int)) (
    (H.ldI .i64 v3.b (v3.o + (v4 : Int).toNat * 4)).bind fun x3 =>
    (H.ldI .i64 v3.b ((v3.o + (v4 : Int).toNat * 4) + 1)).bind fun x4 =>
    (H.ldI .i64 v3.b ((v3.o + (v4 : Int).toNat * 4) + 2)).bind fun x5 =>
    (H.ldI .i64 v3.b ((v3.o + (v4 : Int).toNat * 4) + 3)).bind fun x6 =>
    ck ((0 : Int) ≤ (w64 (v4 - 1)) ∧ (w64 (v4 - 1)) < (v3.len : Int)) (
    (H.ldI .i64 v3.b (v3.o + (w64 (v4 - 1) : Int).toNat * 4)).bind fun x8 =>
    (H.ldI .i64 v3.b ((v3.o + (w64 (v4 - 1) : Int).toNat * 4) + 1)).bind fun x9 =>
    (H.ldI .i64 v3.b ((v3.o + (w64 (v4 - 1) : Int).toNat * 4) + 2)).bind fun x10 =>
    (H.ldI .i64 v3.b ((v3.o + (w64 (v4 - 1) : Int).toNat * 4) + 3)).bind fun x11 =>
    if (((x3 == x8) && (x4 == x9)) && ((x5 == x10) && (x6 == x11))) = true then
      (r90_l1 k_ v1 v2 v3 (w64 (v4 + 1)) H)
    else
      (ck ((0 : Int) ≤ v4 ∧ v4 < (v3.len : Int)) (
      (H.ldI .i64 v3.b (v3.o + (v4 : Int).toNat * 4)).bind fun x14 =>
      (H.ldI .i64 v3.b ((v3.o + (v4 : Int).toNat * 4) + 1)).bind fun x15 =>
      (H.ldI .i64 v3.b ((v3.o + (v4 : Int).toNat * 4) + 2)).bind fun x16 =>
      (H.ldI .i64 v3.b ((v3.o + (v4 : Int).toNat * 4) + 3)).bind fun x17 =>
      ck ((0 : Int) ≤ v2 ∧ v2 < (v1.len : Int)) (
      (H.sts v1.b (v1.o + (v2 : Int).toNat * 4) [.int .i64 x14, .int .i64 x15, .int .i64 x16, .int .i64 x17]).bind fun H19 =>
      r90_l1 k_ v1 (w64 (v2 + 1)) v3 (w64 (v4 + 1)) H19))))))
  else
    (ck (((0 : Int) ≤ v2 ∧ v2 ≤ (v1.len : Int) ∧ (v1.len : Int) ≤ (v1.cap : Int)) ∧ (v1.opn = 0 ∨ v1.opn = 4)) (
    (H.sts (v1.cut 4 (v2 : Int).toNat ((v1.len : Int) : Int).toNat).b (v1.cut 4 (v2 : Int).toNat ((v1.len : Int) : Int).toNat).o (zerosA [.int .i64 0, .int .i64 0, .int .i64 0, .int .i64 0] ((v1.cut 4 (v2 : Int).toNat ((v1.len : Int) : Int).toNat).len * 4))).bind fun H21 =>
    ck (((0 : Int) ≤ 0 ∧ 0 ≤ v2 ∧ v2 ≤ (v1.cap : Int)) ∧ (v1.opn = 0 ∨ v1.opn = 4)) (
    some (v1.cut 4 (0 : Int).toNat (v2 : Int).toNat, H21))))
noncomputable def r90_l0 : Nat → Sl → Int → Hp → Option (Sl × Hp)
  | 0, _, _, _ => none
  | k_ + 1, v1, v2, H => if v2 < (v1.len : Int) then
    (ck ((0 : Int) ≤ v2 ∧ v2 < (v1.len : Int)) (
    (H.ldI .i64 v1.b (v1.o + (v2 : Int).toNat * 4)).bind fun x3 =>
    (H.ldI .i64 v1.b ((v1.o + (v2 : Int).toNat * 4) + 1)).bind fun x4 =>
    (H.ldI .i64 v1.b ((v1.o + (v2 : Int).toNat * 4) + 2)).bind fun x5 =>
    (H.ldI .i64 v1.b ((v1.o + (v2 : Int).toNat * 4) + 3)).bind fun x6 =>
    ck ((0 : Int) ≤ (w64 (v2 - 1)) ∧ (w64 (v2 - 1)) < (v1.len : Int)) (
    (H.ldI .i64 v1.b (v1.o + (w64 (v2 - 1) : Int).toNat * 4)).bind fun x8 =>
    (H.ldI .i64 v1.b ((v1.o + (w64 (v2 - 1) : Int).toNat * 4) + 1)).bind fun x9 =>
    (H.ldI .i64 v1.b ((v1.o + (w64 (v2 - 1) : Int).toNat * 4) + 2)).bind fun x10 =>
    (H.ldI .i64 v1.b ((v1.o + (w64 (v2 - 1) : Int).toNat * 4) + 3)).bind fun x11 =>
    if (((x3 == x8) && (x4 == x9)) && ((x5 == x10) && (x6 == x11))) = true then
      (ck (((0 : Int) ≤ v2 ∧ v2 ≤ (v1.len : Int) ∧ (v1.len : Int) ≤ (v1.cap : Int)) ∧ (v1.opn = 0 ∨ v1.opn = 4)) (
      r90_l1 FUEL v1 v2 (v1.cut 4 (v2 : Int).toNat ((v1.len : Int) : Int).toNat) 1 H))
    else
      (r90_l0 k_ v1 (w64 (v2 + 1)) H))))
  else
    (some (v1, H))
noncomputable def r90 (a0 : Sl) (H : Hp) : Option (Sl × Hp) :=
  if (a0.len : Int) < 2 then
    (some (a0, H))
  else
    (r90_l0 FUEL a0 1 H)
/- 51 congou/cuts.Corners -/
def ret51 : Sl × Int → AV := fun r => .tup [.sl r.1, .int .i64 r.2]
noncomputable def r51 (app : App) (a0 : Sl) (H : Hp) : Option ((Sl × Int) × Hp) :=
  (r63 app a0 H).bind fun p1 =>
  if p1.1 = true then
    (lt (p1.2.push (.cells [.sl ⟨true, 0, 0, 0, 0, 0⟩] false)) fun H3 =>
    (callr app (.fn 66 [.sl a0] []) (H3.n + 1) ((H3.push .dfr).push (.loop .ready none 1 21 [(4, .ptr p1.2.n 0)]))).bind fun p4 =>
    (p4.2.lend (H3.n + 1)).bind fun q5 =>
    if jmp q5.1 = some 0 then
      ((q5.2.ldSl p1.2.n 0).bind fun x7 =>
      (r86 app x7 (.fn 87 [] []) q5.2).bind fun p8 =>
      (p8.2.ldSl p1.2.n 0).bind fun x9 =>
      (r90 x9 p8.2).bind fun p10 =>
      ck (dfrB [H3.n] p10.2 = true) (
      some ((p10.1, 0), kill [H3.n] p10.2)))
    else
      (none))
  else
    (some ((⟨true, 0, 0, 0, 0, 0⟩, 2), p1.2))
noncomputable def r51q1 (app : App) (l_ : Nat) (v1 : Nat) (y0_0 : Int) (y0_1 : Int) (y0_2 : Int) (y0_3 : Int) (y0_4 : Int) (y0_5 : Int) (y0_6 : Int) (y0_7 : Int) (y0_8 : Int) (y0_9 : Int) (H : Hp) : Option ((Option Code) × Hp) :=
  ((H.push (.cells [.int .i64 0, .int .i64 0, .int .i64 0, .int .i64 0, .int .i64 0, .int .i64 0, .int .i64 0, .int .i64 0, .int .i64 0, .int .i64 0] false)).sts H.n 0 [.int .i64 y0_0, .int .i64 y0_1, .int .i64 y0_2, .int .i64 y0_3, .int .i64 y0_4, .int .i64 y0_5, .int .i64 y0_6, .int .i64 y0_7, .int .i64 y0_8, .int .i64 y0_9]).bind fun H1 =>
  (H1.lbegin l_).bind fun H2 =>
  (H2.ldSl v1 0).bind fun x3 =>
  (H2.ldI .i64 H.n (0 + 0)).bind fun x4 =>
  (H2.ldI .i64 H.n ((0 + 0) + 1)).bind fun x5 =>
  (H2.ldI .i64 H.n ((0 + 0) + 2)).bind fun x6 =>
  (H2.ldI .i64 H.n ((0 + 0) + 3)).bind fun x7 =>
  (H2.apN 4 x3 [.int .i64 x4, .int .i64 x5, .int .i64 x6, .int .i64 x7] 1).bind fun x8 =>
  (x8.2.st v1 0 (.sl x8.1)).bind fun H9 =>
  some (none, H9)
end Go.Lt.P2
