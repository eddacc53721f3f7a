/- PRINTED BY A PROGRAM OF OURS: what each function that 'DealsRules' reaches computes on the abstract heap, and that the translated code does just that. Nothing is asked of the input. -/
import Derived.Test.YtficeemoekikdaaDoorG3T
set_option linter.unusedVariables false
set_option linter.unusedSimpArgs false
set_option maxRecDepth 100000
set_option maxHeartbeats 4000000
namespace Go.Lt.P5
open Go Go.Lt Go.Proofs
/- 56 slices.AppendSeq[[][2]int,[2]int] -/
def ret56 : Sl → AV := fun r => .sl r
noncomputable def r56 (app : App) (a0 : Sl) (a1 : AV) (H : Hp) : Option (Sl × Hp) :=
  lt (H.push (.cells [.sl a0] false)) fun H1 =>
  (callr app a1 (H1.n + 1) ((H1.push .dfr).push (.loop .ready none 0 13 [(2, .ptr H.n 0)]))).bind fun p2 =>
  (p2.2.lend (H1.n + 1)).bind fun q3 =>
  if jmp q3.1 = some 0 then
    ((q3.2.ldSl H.n 0).bind fun x5 =>
    ck (dfrB [H1.n] q3.2 = true) (
    some (x5, kill [H1.n] q3.2)))
  else
    (none)
noncomputable def r56q0 (app : App) (l_ : Nat) (v1 : Nat) (y0_0 : Int) (y0_1 : Int) (H : Hp) : Option ((Option Code) × Hp) :=
  ((H.push (.cells [.int .i64 0, .int .i64 0] false)).sts H.n 0 [.int .i64 y0_0, .int .i64 y0_1]).bind fun H1 =>
  (H1.lbegin l_).bind fun H2 =>
  (H2.ldSl v1 0).bind fun x3 =>
  (H2.ldI .i64 H.n 0).bind fun x4 =>
  (H2.ldI .i64 H.n (0 + 1)).bind fun x5 =>
  (H2.apN 2 x3 [.int .i64 x4, .int .i64 x5] 1).bind fun x6 =>
  (x6.2.st v1 0 (.sl x6.1)).bind fun H7 =>
  some (none, H7)
/- 51 slices.Collect[[2]int] -/
def ret51 : Sl → AV := fun r => .sl r
noncomputable def r51 (app : App) (a0 : AV) (H : Hp) : Option (Sl × Hp) :=
  (r56 app ⟨true, 0, 0, 0, 0, 0⟩ a0 H).bind fun p1 =>
  some (p1.1, p1.2)
/- 59 slices.insertionSortCmpFunc[[2]int] -/
def ret59 : Unit → AV := fun _ => .tup []
noncomputable def r59_j2 (app : App) (kt0 : Sl → Int → Int → AV → Int → Hp → Option (Unit × Hp)) (kt1 : Sl → Int → Int → AV → Int → Int → Hp → Option (Unit × Hp)) (v1 : Sl) (v2 : Int) (v3 : Int) (v4 : AV) (v5 : Int) (v6 : Int) (v7 : Bool) (H : Hp) : Option (Unit × Hp) :=
  if v7 = true then
    (ck ((0 : Int) ≤ (w64 (v6 - 1)) ∧ (w64 (v6 - 1)) < (v1.len : Int)) (
    (H.ldI .i64 v1.b (v1.o + (w64 (v6 - 1) : Int).toNat * 2)).bind fun x3 =>
    (H.ldI .i64 v1.b ((v1.o + (w64 (v6 - 1) : Int).toNat * 2) + 1)).bind fun x4 =>
    ck ((0 : Int) ≤ v6 ∧ v6 < (v1.len : Int)) (
    (H.ldI .i64 v1.b (v1.o + (v6 : Int).toNat * 2)).bind fun x6 =>
    (H.ldI .i64 v1.b ((v1.o + (v6 : Int).toNat * 2) + 1)).bind fun x7 =>
    ck ((0 : Int) ≤ v6 ∧ v6 < (v1.len : Int)) (
    (H.sts v1.b (v1.o + (v6 : Int).toNat * 2) [.int .i64 x3, .int .i64 x4]).bind fun H9 =>
    ck ((0 : Int) ≤ (w64 (v6 - 1)) ∧ (w64 (v6 - 1)) < (v1.len : Int)) (
    (H9.sts v1.b (v1.o + (w64 (v6 - 1) : Int).toNat * 2) [.int .i64 x6, .int .i64 x7]).bind fun H11 =>
    kt1 v1 v2 v3 v4 v5 (w64 (v6 - 1)) H11)))))
  else
    (kt0 v1 v2 v3 v4 (w64 (v5 + 1)) H)
noncomputable def r59_l1 (app : App) (kt0 : Sl → Int → Int → AV → Int → Hp → Option (Unit × Hp)) : Nat → Sl → Int → Int → AV → Int → Int → Hp → Option (Unit × Hp)
  | 0, _, _, _, _, _, _, _ => none
  | k_ + 1, v1, v2, v3, v4, v5, v6, H => if v2 < v6 then
    (ck ((0 : Int) ≤ v6 ∧ v6 < (v1.len : Int)) (
    (H.ldI .i64 v1.b (v1.o + (v6 : Int).toNat * 2)).bind fun x3 =>
    (H.ldI .i64 v1.b ((v1.o + (v6 : Int).toNat * 2) + 1)).bind fun x4 =>
    ck ((0 : Int) ≤ (w64 (v6 - 1)) ∧ (w64 (v6 - 1)) < (v1.len : Int)) (
    (H.ldI .i64 v1.b (v1.o + (w64 (v6 - 1) : Int).toNat * 2)).bind fun x6 =>
    (H.ldI .i64 v1.b ((v1.o + (w64 (v6 - 1) : Int).toNat * 2) + 1)).bind fun x7 =>
    (callv app v4 [.agg [.int .i64 x3, .int .i64 x4], .agg [.int .i64 x6, .int .i64 x7]] H).bind fun p8 =>
    (p8.1.asI .i64).bind fun x9 =>
    r59_j2 app kt0 (fun v1_ v2_ v3_ v4_ v5_ v6_ H_ => r59_l1 app kt0 k_ v1_ v2_ v3_ v4_ v5_ v6_ H_) v1 v2 v3 v4 v5 v6 (decide (x9 < 0)) p8.2)))
  else
    (r59_j2 app kt0 (fun v1_ v2_ v3_ v4_ v5_ v6_ H_ => r59_l1 app kt0 k_ v1_ v2_ v3_ v4_ v5_ v6_ H_) v1 v2 v3 v4 v5 v6 false H)
noncomputable def r59_l0 (app : App) : Nat → Sl → Int → Int → AV → Int → Hp → Option (Unit × Hp)
  | 0, _, _, _, _, _, _ => none
  | k_ + 1, v1, v2, v3, v4, v5, H => if v5 < v3 then
    (r59_l1 app (fun v1_ v2_ v3_ v4_ v5_ H_ => r59_l0 app k_ v1_ v2_ v3_ v4_ v5_ H_) FUEL v1 v2 v3 v4 v5 v5 H)
  else
    (some ((), H))
noncomputable def r59 (app : App) (a0 : Sl) (a1 : Int) (a2 : Int) (a3 : AV) (H : Hp) : Option (Unit × Hp) :=
  r59_l0 app FUEL a0 a1 a2 a3 (w64 (a1 + 1)) H
/- 69 slices.siftDownCmpFunc[[2]int] -/
def ret69 : Unit → AV := fun _ => .tup []
noncomputable def r69_j1 (app : App) (kt0 : Sl → Int → Int → AV → Int → Hp → Option (Unit × Hp)) (v1 : Sl) (v2 : Int) (v3 : Int) (v4 : AV) (v5 : Int) (v6 : Int) (H : Hp) : Option (Unit × Hp) :=
  ck ((0 : Int) ≤ (w64 (v3 + v5)) ∧ (w64 (v3 + v5)) < (v1.len : Int)) (
  (H.ldI .i64 v1.b (v1.o + (w64 (v3 + v5) : Int).toNat * 2)).bind fun x2 =>
  (H.ldI .i64 v1.b ((v1.o + (w64 (v3 + v5) : Int).toNat * 2) + 1)).bind fun x3 =>
  ck ((0 : Int) ≤ (w64 (v3 + v6)) ∧ (w64 (v3 + v6)) < (v1.len : Int)) (
  (H.ldI .i64 v1.b (v1.o + (w64 (v3 + v6) : Int).toNat * 2)).bind fun x5 =>
  (H.ldI .i64 v1.b ((v1.o + (w64 (v3 + v6) : Int).toNat * 2) + 1)).bind fun x6 =>
  (callv app v4 [.agg [.int .i64 x2, .int .i64 x3], .agg [.int .i64 x5, .int .i64 x6]] H).bind fun p7 =>
  (p7.1.asI .i64).bind fun x8 =>
  if x8 < 0 then
    (ck ((0 : Int) ≤ (w64 (v3 + v6)) ∧ (w64 (v3 + v6)) < (v1.len : Int)) (
    (p7.2.ldI .i64 v1.b (v1.o + (w64 (v3 + v6) : Int).toNat * 2)).bind fun x11 =>
    (p7.2.ldI .i64 v1.b ((v1.o + (w64 (v3 + v6) : Int).toNat * 2) + 1)).bind fun x12 =>
    ck ((0 : Int) ≤ (w64 (v3 + v5)) ∧ (w64 (v3 + v5)) < (v1.len : Int)) (
    (p7.2.ldI .i64 v1.b (v1.o + (w64 (v3 + v5) : Int).toNat * 2)).bind fun x14 =>
    (p7.2.ldI .i64 v1.b ((v1.o + (w64 (v3 + v5) : Int).toNat * 2) + 1)).bind fun x15 =>
    ck ((0 : Int) ≤ (w64 (v3 + v5)) ∧ (w64 (v3 + v5)) < (v1.len : Int)) (
    (p7.2.sts v1.b (v1.o + (w64 (v3 + v5) : Int).toNat * 2) [.int .i64 x11, .int .i64 x12]).bind fun H17 =>
    ck ((0 : Int) ≤ (w64 (v3 + v6)) ∧ (w64 (v3 + v6)) < (v1.len : Int)) (
    (H17.sts v1.b (v1.o + (w64 (v3 + v6) : Int).toNat * 2) [.int .i64 x14, .int .i64 x15]).bind fun H19 =>
    kt0 v1 v2 v3 v4 v6 H19)))))
  else
    (some ((), p7.2))))
noncomputable def r69_j2 (app : App) (kt0 : Sl → Int → Int → AV → Int → Hp → Option (Unit × Hp)) (v1 : Sl) (v2 : Int) (v3 : Int) (v4 : AV) (v5 : Int) (v6 : Int) (v7 : Bool) (H : Hp) : Option (Unit × Hp) :=
  if v7 = true then
    (r69_j1 app kt0 v1 v2 v3 v4 v5 (w64 (v6 + 1)) H)
  else
    (r69_j1 app kt0 v1 v2 v3 v4 v5 v6 H)
noncomputable def r69_l0 (app : App) : Nat → Sl → Int → Int → AV → Int → Hp → Option (Unit × Hp)
  | 0, _, _, _, _, _, _ => none
  | k_ + 1, v1, v2, v3, v4, v5, H => if v2 ≤ (w64 ((w64 (2 * v5)) + 1)) then
    (some ((), H))
  else
    (if (w64 ((w64 ((w64 (2 * v5)) + 1)) + 1)) < v2 then
      (ck ((0 : Int) ≤ (w64 (v3 + (w64 ((w64 (2 * v5)) + 1)))) ∧ (w64 (v3 + (w64 ((w64 (2 * v5)) + 1)))) < (v1.len : Int)) (
      (H.ldI .i64 v1.b (v1.o + (w64 (v3 + (w64 ((w64 (2 * v5)) + 1))) : Int).toNat * 2)).bind fun x4 =>
      (H.ldI .i64 v1.b ((v1.o + (w64 (v3 + (w64 ((w64 (2 * v5)) + 1))) : Int).toNat * 2) + 1)).bind fun x5 =>
      ck ((0 : Int) ≤ (w64 ((w64 (v3 + (w64 ((w64 (2 * v5)) + 1)))) + 1)) ∧ (w64 ((w64 (v3 + (w64 ((w64 (2 * v5)) + 1)))) + 1)) < (v1.len : Int)) (
      (H.ldI .i64 v1.b (v1.o + (w64 ((w64 (v3 + (w64 ((w64 (2 * v5)) + 1)))) + 1) : Int).toNat * 2)).bind fun x7 =>
      (H.ldI .i64 v1.b ((v1.o + (w64 ((w64 (v3 + (w64 ((w64 (2 * v5)) + 1)))) + 1) : Int).toNat * 2) + 1)).bind fun x8 =>
      (callv app v4 [.agg [.int .i64 x4, .int .i64 x5], .agg [.int .i64 x7, .int .i64 x8]] H).bind fun p9 =>
      (p9.1.asI .i64).bind fun x10 =>
      r69_j2 app (fun v1_ v2_ v3_ v4_ v5_ H_ => r69_l0 app k_ v1_ v2_ v3_ v4_ v5_ H_) v1 v2 v3 v4 v5 (w64 ((w64 (2 * v5)) + 1)) (decide (x10 < 0)) p9.2)))
    else
      (r69_j2 app (fun v1_ v2_ v3_ v4_ v5_ H_ => r69_l0 app k_ v1_ v2_ v3_ v4_ v5_ H_) v1 v2 v3 v4 v5 (w64 ((w64 (2 * v5)) + 1)) false H))
noncomputable def r69 (app : App) (a0 : Sl) (a1 : Int) (a2 : Int) (a3 : Int) (a4 : AV) (H : Hp) : Option (Unit × Hp) :=
  r69_l0 app FUEL a0 a2 a3 a4 a1 H
/- 60 slices.heapSortCmpFunc[[2]int] -/
def ret60 : Unit → AV := fun _ => .tup []
noncomputable def r60_l1 (app : App) : Nat → Sl → AV → Int → Int → Int → Hp → Option (Unit × Hp)
  | 0, _, _, _, _, _, _ => none
  | k_ + 1, v1, v2, v3, v4, v5, H => if 0 ≤ v5 then
    (ck ((0 : Int) ≤ (w64 (v3 + v5)) ∧ (w64 (v3 + v5)) < (v1.len : Int)) (
    (H.ldI .i64 v1.b (v1.o + (w64 (v3 + v5) : Int).toNat * 2)).bind fun x3 =>
    (H.ldI .i64 v1.b ((v1.o + (w64 (v3 + v5) : Int).toNat * 2) + 1)).bind fun x4 =>
    ck ((0 : Int) ≤ v3 ∧ v3 < (v1.len : Int)) (
    (H.ldI .i64 v1.b (v1.o + (v3 : Int).toNat * 2)).bind fun x6 =>
    (H.ldI .i64 v1.b ((v1.o + (v3 : Int).toNat * 2) + 1)).bind fun x7 =>
    ck ((0 : Int) ≤ v3 ∧ v3 < (v1.len : Int)) (
    (H.sts v1.b (v1.o + (v3 : Int).toNat * 2) [.int .i64 x3, .int .i64 x4]).bind fun H9 =>
    ck ((0 : Int) ≤ (w64 (v3 + v5)) ∧ (w64 (v3 + v5)) < (v1.len : Int)) (
    (H9.sts v1.b (v1.o + (w64 (v3 + v5) : Int).toNat * 2) [.int .i64 x6, .int .i64 x7]).bind fun H11 =>
    (r69 app v1 v4 v5 v3 v2 H11).bind fun p12 =>
    r60_l1 app k_ v1 v2 v3 v4 (w64 (v5 - 1)) p12.2)))))
  else
    (some ((), H))
noncomputable def r60_l0 (app : App) : Nat → Sl → AV → Int → Int → Int → Int → Hp → Option (Unit × Hp)
  | 0, _, _, _, _, _, _, _ => none
  | k_ + 1, v1, v2, v3, v4, v5, v6, H => if 0 ≤ v6 then
    ((r69 app v1 v6 v5 v3 v2 H).bind fun p2 =>
    r60_l0 app k_ v1 v2 v3 v4 v5 (w64 (v6 - 1)) p2.2)
  else
    (r60_l1 app FUEL v1 v2 v3 v4 (w64 (v5 - 1)) H)
noncomputable def r60 (app : App) (a0 : Sl) (a1 : Int) (a2 : Int) (a3 : AV) (H : Hp) : Option (Unit × Hp) :=
  r60_l0 app FUEL a0 a3 a1 0 (w64 (a2 - a1)) (w64 (Int.tdiv (w64 ((w64 (a2 - a1)) - 1)) 2)) H
/- 67 math/bits.Len32 -/
def ret67 : Int → AV := fun r => .int .i64 r
noncomputable def r67_j0 (v1 : Int) (v2 : Int) (H : Hp) : Option (Int × Hp) :=
  ck ((0 : Int) ≤ (IntKind.wrap .u8 (v1)) ∧ (IntKind.wrap .u8 (v1)) < ((strC Tryd.f67 [1, 1, 1, 0] 3 0).size : Int)) (
  some (w64 (v2 + (w64 (bt (strC Tryd.f67 [1, 1, 1, 0] 3 0) (IntKind.wrap .u8 (v1))))), H))
noncomputable def r67_j1 (v1 : Int) (v2 : Int) (H : Hp) : Option (Int × Hp) :=
  if 256 ≤ v1 then
    (r67_j0 (shrOf .u32 v1 8) (w64 (v2 + 8)) H)
  else
    (r67_j0 v1 v2 H)
noncomputable def r67 (a0 : Int) (H : Hp) : Option (Int × Hp) :=
  if 65536 ≤ a0 then
    (r67_j1 (shrOf .u32 a0 16) 16 H)
  else
    (r67_j1 a0 0 H)
/- 68 math/bits.Len64 -/
def ret68 : Int → AV := fun r => .int .i64 r
noncomputable def r68_j0 (v1 : Int) (v2 : Int) (H : Hp) : Option (Int × Hp) :=
  ck ((0 : Int) ≤ (IntKind.wrap .u8 (v1)) ∧ (IntKind.wrap .u8 (v1)) < ((strC Tryd.f68 [1, 1, 1, 1, 0] 3 0).size : Int)) (
  some (w64 (v2 + (w64 (bt (strC Tryd.f68 [1, 1, 1, 1, 0] 3 0) (IntKind.wrap .u8 (v1))))), H))
noncomputable def r68_j1 (v1 : Int) (v2 : Int) (H : Hp) : Option (Int × Hp) :=
  if 256 ≤ v1 then
    (r68_j0 (shrOf .u64 v1 8) (w64 (v2 + 8)) H)
  else
    (r68_j0 v1 v2 H)
noncomputable def r68_j2 (v1 : Int) (v2 : Int) (H : Hp) : Option (Int × Hp) :=
  if 65536 ≤ v1 then
    (r68_j1 (shrOf .u64 v1 16) (w64 (v2 + 16)) H)
  else
    (r68_j1 v1 v2 H)
noncomputable def r68 (a0 : Int) (H : Hp) : Option (Int × Hp) :=
  if 4294967296 ≤ a0 then
    (r68_j2 (shrOf .u64 a0 32) 32 H)
  else
    (r68_j2 a0 0 H)
/- 58 math/bits.Len -/
def ret58 : Int → AV := fun r => .int .i64 r
noncomputable def r58 (a0 : Int) (H : Hp) : Option (Int × Hp) :=
  (r68 a0 H).bind fun p1 =>
  some (p1.1, p1.2)
/- 70 slices.nextPowerOfTwo -/
def ret70 : Int → AV := fun r => .int .u64 r
noncomputable def r70 (a0 : Int) (H : Hp) : Option (Int × Hp) :=
  (r58 (IntKind.wrap .u64 (a0)) H).bind fun p1 =>
  ck (¬ p1.1 < 0) (
  some (shlOf .u64 1 p1.1, p1.2))
/- 71 (*slices.xorshift).Next -/
def ret71 : Int → AV := fun r => .int .u64 r
noncomputable def r71 (a0b : Nat) (a0o : Nat) (H : Hp) : Option (Int × Hp) :=
  (H.ldI .u64 a0b a0o).bind fun x1 =>
  (H.ldI .u64 a0b a0o).bind fun x2 =>
  (H.st a0b a0o (.int .u64 (bitsOf .xor .u64 x1 (shlOf .u64 x2 13)))).bind fun H3 =>
  (H3.ldI .u64 a0b a0o).bind fun x4 =>
  (H3.ldI .u64 a0b a0o).bind fun x5 =>
  (H3.st a0b a0o (.int .u64 (bitsOf .xor .u64 x4 (shrOf .u64 x5 7)))).bind fun H6 =>
  (H6.ldI .u64 a0b a0o).bind fun x7 =>
  (H6.ldI .u64 a0b a0o).bind fun x8 =>
  (H6.st a0b a0o (.int .u64 (bitsOf .xor .u64 x7 (shlOf .u64 x8 17)))).bind fun H9 =>
  (H9.ldI .u64 a0b a0o).bind fun x10 =>
  some (x10, H9)
/- 61 slices.breakPatternsCmpFunc[[2]int] -/
def ret61 : Unit → AV := fun _ => .tup []
noncomputable def r61_j1 (kt0 : Sl → Int → Int → Nat → Int → Int → Hp → Option (Unit × Hp)) (v1 : Sl) (v2 : Int) (v3 : Int) (v4 : Nat) (v5 : Int) (v6 : Int) (v7 : Int) (H : Hp) : Option (Unit × Hp) :=
  ck ((0 : Int) ≤ (w64 (v2 + v7)) ∧ (w64 (v2 + v7)) < (v1.len : Int)) (
  (H.ldI .i64 v1.b (v1.o + (w64 (v2 + v7) : Int).toNat * 2)).bind fun x2 =>
  (H.ldI .i64 v1.b ((v1.o + (w64 (v2 + v7) : Int).toNat * 2) + 1)).bind fun x3 =>
  ck ((0 : Int) ≤ v6 ∧ v6 < (v1.len : Int)) (
  (H.ldI .i64 v1.b (v1.o + (v6 : Int).toNat * 2)).bind fun x5 =>
  (H.ldI .i64 v1.b ((v1.o + (v6 : Int).toNat * 2) + 1)).bind fun x6 =>
  ck ((0 : Int) ≤ v6 ∧ v6 < (v1.len : Int)) (
  (H.sts v1.b (v1.o + (v6 : Int).toNat * 2) [.int .i64 x2, .int .i64 x3]).bind fun H8 =>
  ck ((0 : Int) ≤ (w64 (v2 + v7)) ∧ (w64 (v2 + v7)) < (v1.len : Int)) (
  (H8.sts v1.b (v1.o + (w64 (v2 + v7) : Int).toNat * 2) [.int .i64 x5, .int .i64 x6]).bind fun H10 =>
  kt0 v1 v2 v3 v4 v5 (w64 (v6 + 1)) H10))))
noncomputable def r61_l0 : Nat → Sl → Int → Int → Nat → Int → Int → Hp → Option (Unit × Hp)
  | 0, _, _, _, _, _, _, _ => none
  | k_ + 1, v1, v2, v3, v4, v5, v6, H => if v6 ≤ (w64 ((w64 (v2 + (w64 ((w64 (Int.tdiv v3 4)) * 2)))) + 1)) then
    ((r71 v4 0 H).bind fun p2 =>
    if v3 ≤ (w64 (bitsOf .and .u64 p2.1 (IntKind.wrap .u64 (v5 - 1)))) then
      (r61_j1 (fun v1_ v2_ v3_ v4_ v5_ v6_ H_ => r61_l0 k_ v1_ v2_ v3_ v4_ v5_ v6_ H_) v1 v2 v3 v4 v5 v6 (w64 ((w64 (bitsOf .and .u64 p2.1 (IntKind.wrap .u64 (v5 - 1)))) - v3)) p2.2)
    else
      (r61_j1 (fun v1_ v2_ v3_ v4_ v5_ v6_ H_ => r61_l0 k_ v1_ v2_ v3_ v4_ v5_ v6_ H_) v1 v2 v3 v4 v5 v6 (w64 (bitsOf .and .u64 p2.1 (IntKind.wrap .u64 (v5 - 1)))) p2.2))
  else
    (some ((), H))
noncomputable def r61 (a0 : Sl) (a1 : Int) (a2 : Int) (a3 : AV) (H : Hp) : Option (Unit × Hp) :=
  if 8 ≤ (w64 (a2 - a1)) then
    (((H.push (.cells [.int .u64 0] false)).st H.n 0 (.int .u64 (IntKind.wrap .u64 (w64 (a2 - a1))))).bind fun H2 =>
    (r70 (w64 (a2 - a1)) H2).bind fun p3 =>
    r61_l0 FUEL a0 a1 (w64 (a2 - a1)) H.n p3.1 (w64 ((w64 (a1 + (w64 ((w64 (Int.tdiv (w64 (a2 - a1)) 4)) * 2)))) - 1)) p3.2)
  else
    (some ((), H))
/- 74 slices.order2CmpFunc[[2]int] -/
def ret74 : Int × Int → AV := fun r => .tup [.int .i64 r.1, .int .i64 r.2]
noncomputable def r74 (app : App) (a0 : Sl) (a1 : Int) (a2 : Int) (a3b : Nat) (a3o : Nat) (a4 : AV) (H : Hp) : Option ((Int × Int) × Hp) :=
  ck ((0 : Int) ≤ a2 ∧ a2 < (a0.len : Int)) (
  (H.ldI .i64 a0.b (a0.o + (a2 : Int).toNat * 2)).bind fun x2 =>
  (H.ldI .i64 a0.b ((a0.o + (a2 : Int).toNat * 2) + 1)).bind fun x3 =>
  ck ((0 : Int) ≤ a1 ∧ a1 < (a0.len : Int)) (
  (H.ldI .i64 a0.b (a0.o + (a1 : Int).toNat * 2)).bind fun x5 =>
  (H.ldI .i64 a0.b ((a0.o + (a1 : Int).toNat * 2) + 1)).bind fun x6 =>
  (callv app a4 [.agg [.int .i64 x2, .int .i64 x3], .agg [.int .i64 x5, .int .i64 x6]] H).bind fun p7 =>
  (p7.1.asI .i64).bind fun x8 =>
  if x8 < 0 then
    ((p7.2.ldI .i64 a3b a3o).bind fun x10 =>
    (p7.2.st a3b a3o (.int .i64 (w64 (x10 + 1)))).bind fun H11 =>
    some ((a2, a1), H11))
  else
    (some ((a1, a2), p7.2))))
/- 73 slices.medianCmpFunc[[2]int] -/
def ret73 : Int → AV := fun r => .int .i64 r
noncomputable def r73 (app : App) (a0 : Sl) (a1 : Int) (a2 : Int) (a3 : Int) (a4b : Nat) (a4o : Nat) (a5 : AV) (H : Hp) : Option (Int × Hp) :=
  (r74 app a0 a1 a2 a4b a4o a5 H).bind fun p1 =>
  (r74 app a0 p1.1.2 a3 a4b a4o a5 p1.2).bind fun p2 =>
  (r74 app a0 p1.1.1 p2.1.1 a4b a4o a5 p2.2).bind fun p3 =>
  some (p3.1.2, p3.2)
/- 72 slices.medianAdjacentCmpFunc[[2]int] -/
def ret72 : Int → AV := fun r => .int .i64 r
noncomputable def r72 (app : App) (a0 : Sl) (a1 : Int) (a2b : Nat) (a2o : Nat) (a3 : AV) (H : Hp) : Option (Int × Hp) :=
  (r73 app a0 (w64 (a1 - 1)) a1 (w64 (a1 + 1)) a2b a2o a3 H).bind fun p1 =>
  some (p1.1, p1.2)
/- 62 slices.choosePivotCmpFunc[[2]int] -/
def ret62 : Int × Int → AV := fun r => .tup [.int .i64 r.1, .int .i64 r.2]
noncomputable def r62_j1 (app : App) (v1 : Nat) (v2 : Int) (H : Hp) : Option ((Int × Int) × Hp) :=
  (H.ldI .i64 v1 0).bind fun x1 =>
  if x1 = 0 then
    (some ((v2, 1), H))
  else
    (if x1 = 12 then
      (some ((v2, 2), H))
    else
      (some ((v2, 0), H)))
noncomputable def r62_j0 (app : App) (v1 : Sl) (v2 : AV) (v3 : Nat) (v4 : Int) (v5 : Int) (v6 : Int) (H : Hp) : Option ((Int × Int) × Hp) :=
  (r73 app v1 v4 v5 v6 v3 0 v2 H).bind fun p1 =>
  r62_j1 app v3 p1.1 p1.2
noncomputable def r62 (app : App) (a0 : Sl) (a1 : Int) (a2 : Int) (a3 : AV) (H : Hp) : Option ((Int × Int) × Hp) :=
  lt (H.push (.cells [.int .i64 0] false)) fun H1 =>
  if 8 ≤ (w64 (a2 - a1)) then
    (if 50 ≤ (w64 (a2 - a1)) then
      ((r72 app a0 (w64 (a1 + (w64 ((w64 (Int.tdiv (w64 (a2 - a1)) 4)) * 1)))) H.n 0 a3 H1).bind fun p4 =>
      (r72 app a0 (w64 (a1 + (w64 ((w64 (Int.tdiv (w64 (a2 - a1)) 4)) * 2)))) H.n 0 a3 p4.2).bind fun p5 =>
      (r72 app a0 (w64 (a1 + (w64 ((w64 (Int.tdiv (w64 (a2 - a1)) 4)) * 3)))) H.n 0 a3 p5.2).bind fun p6 =>
      r62_j0 app a0 a3 H.n p4.1 p5.1 p6.1 p6.2)
    else
      (r62_j0 app a0 a3 H.n (w64 (a1 + (w64 ((w64 (Int.tdiv (w64 (a2 - a1)) 4)) * 1)))) (w64 (a1 + (w64 ((w64 (Int.tdiv (w64 (a2 - a1)) 4)) * 2)))) (w64 (a1 + (w64 ((w64 (Int.tdiv (w64 (a2 - a1)) 4)) * 3)))) H1))
  else
    (r62_j1 app H.n (w64 (a1 + (w64 ((w64 (Int.tdiv (w64 (a2 - a1)) 4)) * 2)))) H1)
/- 63 slices.reverseRangeCmpFunc[[2]int] -/
def ret63 : Unit → AV := fun _ => .tup []
noncomputable def r63_l0 : Nat → Sl → Int → Int → Hp → Option (Unit × Hp)
  | 0, _, _, _, _ => none
  | k_ + 1, v1, v2, v3, H => if v2 < v3 then
    (ck ((0 : Int) ≤ v3 ∧ v3 < (v1.len : Int)) (
    (H.ldI .i64 v1.b (v1.o + (v3 : Int).toNat * 2)).bind fun x3 =>
    (H.ldI .i64 v1.b ((v1.o + (v3 : Int).toNat * 2) + 1)).bind fun x4 =>
    ck ((0 : Int) ≤ v2 ∧ v2 < (v1.len : Int)) (
    (H.ldI .i64 v1.b (v1.o + (v2 : Int).toNat * 2)).bind fun x6 =>
    (H.ldI .i64 v1.b ((v1.o + (v2 : Int).toNat * 2) + 1)).bind fun x7 =>
    ck ((0 : Int) ≤ v2 ∧ v2 < (v1.len : Int)) (
    (H.sts v1.b (v1.o + (v2 : Int).toNat * 2) [.int .i64 x3, .int .i64 x4]).bind fun H9 =>
    ck ((0 : Int) ≤ v3 ∧ v3 < (v1.len : Int)) (
    (H9.sts v1.b (v1.o + (v3 : Int).toNat * 2) [.int .i64 x6, .int .i64 x7]).bind fun H11 =>
    r63_l0 k_ v1 (w64 (v2 + 1)) (w64 (v3 - 1)) H11)))))
  else
    (some ((), H))
noncomputable def r63 (a0 : Sl) (a1 : Int) (a2 : Int) (a3 : AV) (H : Hp) : Option (Unit × Hp) :=
  r63_l0 FUEL a0 a1 (w64 (a2 - 1)) H
/- 64 slices.partialInsertionSortCmpFunc[[2]int] -/
def ret64 : Bool → AV := fun r => .bool r
noncomputable def r64_l3 (app : App) (kt0 : Sl → Int → Int → AV → Int → Int → Hp → Option (Bool × Hp)) : Nat → Sl → Int → Int → AV → Int → Int → Int → Hp → Option (Bool × Hp)
  | 0, _, _, _, _, _, _, _, _ => none
  | k_ + 1, v1, v2, v3, v4, v5, v6, v7, H => if v7 < v3 then
    (ck ((0 : Int) ≤ v7 ∧ v7 < (v1.len : Int)) (
    (H.ldI .i64 v1.b (v1.o + (v7 : Int).toNat * 2)).bind fun x3 =>
    (H.ldI .i64 v1.b ((v1.o + (v7 : Int).toNat * 2) + 1)).bind fun x4 =>
    ck ((0 : Int) ≤ (w64 (v7 - 1)) ∧ (w64 (v7 - 1)) < (v1.len : Int)) (
    (H.ldI .i64 v1.b (v1.o + (w64 (v7 - 1) : Int).toNat * 2)).bind fun x6 =>
    (H.ldI .i64 v1.b ((v1.o + (w64 (v7 - 1) : Int).toNat * 2) + 1)).bind fun x7 =>
    (callv app v4 [.agg [.int .i64 x3, .int .i64 x4], .agg [.int .i64 x6, .int .i64 x7]] H).bind fun p8 =>
    (p8.1.asI .i64).bind fun x9 =>
    if x9 < 0 then
      (ck ((0 : Int) ≤ (w64 (v7 - 1)) ∧ (w64 (v7 - 1)) < (v1.len : Int)) (
      (p8.2.ldI .i64 v1.b (v1.o + (w64 (v7 - 1) : Int).toNat * 2)).bind fun x12 =>
      (p8.2.ldI .i64 v1.b ((v1.o + (w64 (v7 - 1) : Int).toNat * 2) + 1)).bind fun x13 =>
      ck ((0 : Int) ≤ v7 ∧ v7 < (v1.len : Int)) (
      (p8.2.ldI .i64 v1.b (v1.o + (v7 : Int).toNat * 2)).bind fun x15 =>
      (p8.2.ldI .i64 v1.b ((v1.o + (v7 : Int).toNat * 2) + 1)).bind fun x16 =>
      ck ((0 : Int) ≤ v7 ∧ v7 < (v1.len : Int)) (
      (p8.2.sts v1.b (v1.o + (v7 : Int).toNat * 2) [.int .i64 x12, .int .i64 x13]).bind fun H18 =>
      ck ((0 : Int) ≤ (w64 (v7 - 1)) ∧ (w64 (v7 - 1)) < (v1.len : Int)) (
      (H18.sts v1.b (v1.o + (w64 (v7 - 1) : Int).toNat * 2) [.int .i64 x15, .int .i64 x16]).bind fun H20 =>
      r64_l3 app kt0 k_ v1 v2 v3 v4 v5 v6 (w64 (v7 + 1)) H20)))))
    else
      (kt0 v1 v2 v3 v4 v5 (w64 (v6 + 1)) p8.2))))
  else
    (kt0 v1 v2 v3 v4 v5 (w64 (v6 + 1)) H)
noncomputable def r64_j5 (app : App) (kt0 : Sl → Int → Int → AV → Int → Int → Hp → Option (Bool × Hp)) (v1 : Sl) (v2 : Int) (v3 : Int) (v4 : AV) (v5 : Int) (v6 : Int) (H : Hp) : Option (Bool × Hp) :=
  if 2 ≤ (w64 (v3 - v5)) then
    (r64_l3 app kt0 FUEL v1 v2 v3 v4 v5 v6 (w64 (v5 + 1)) H)
  else
    (kt0 v1 v2 v3 v4 v5 (w64 (v6 + 1)) H)
noncomputable def r64_l2 (app : App) (kt0 : Sl → Int → Int → AV → Int → Int → Hp → Option (Bool × Hp)) : Nat → Sl → Int → Int → AV → Int → Int → Int → Hp → Option (Bool × Hp)
  | 0, _, _, _, _, _, _, _, _ => none
  | k_ + 1, v1, v2, v3, v4, v5, v6, v7, H => if 1 ≤ v7 then
    (ck ((0 : Int) ≤ v7 ∧ v7 < (v1.len : Int)) (
    (H.ldI .i64 v1.b (v1.o + (v7 : Int).toNat * 2)).bind fun x3 =>
    (H.ldI .i64 v1.b ((v1.o + (v7 : Int).toNat * 2) + 1)).bind fun x4 =>
    ck ((0 : Int) ≤ (w64 (v7 - 1)) ∧ (w64 (v7 - 1)) < (v1.len : Int)) (
    (H.ldI .i64 v1.b (v1.o + (w64 (v7 - 1) : Int).toNat * 2)).bind fun x6 =>
    (H.ldI .i64 v1.b ((v1.o + (w64 (v7 - 1) : Int).toNat * 2) + 1)).bind fun x7 =>
    (callv app v4 [.agg [.int .i64 x3, .int .i64 x4], .agg [.int .i64 x6, .int .i64 x7]] H).bind fun p8 =>
    (p8.1.asI .i64).bind fun x9 =>
    if x9 < 0 then
      (ck ((0 : Int) ≤ (w64 (v7 - 1)) ∧ (w64 (v7 - 1)) < (v1.len : Int)) (
      (p8.2.ldI .i64 v1.b (v1.o + (w64 (v7 - 1) : Int).toNat * 2)).bind fun x12 =>
      (p8.2.ldI .i64 v1.b ((v1.o + (w64 (v7 - 1) : Int).toNat * 2) + 1)).bind fun x13 =>
      ck ((0 : Int) ≤ v7 ∧ v7 < (v1.len : Int)) (
      (p8.2.ldI .i64 v1.b (v1.o + (v7 : Int).toNat * 2)).bind fun x15 =>
      (p8.2.ldI .i64 v1.b ((v1.o + (v7 : Int).toNat * 2) + 1)).bind fun x16 =>
      ck ((0 : Int) ≤ v7 ∧ v7 < (v1.len : Int)) (
      (p8.2.sts v1.b (v1.o + (v7 : Int).toNat * 2) [.int .i64 x12, .int .i64 x13]).bind fun H18 =>
      ck ((0 : Int) ≤ (w64 (v7 - 1)) ∧ (w64 (v7 - 1)) < (v1.len : Int)) (
      (H18.sts v1.b (v1.o + (w64 (v7 - 1) : Int).toNat * 2) [.int .i64 x15, .int .i64 x16]).bind fun H20 =>
      r64_l2 app kt0 k_ v1 v2 v3 v4 v5 v6 (w64 (v7 - 1)) H20)))))
    else
      (r64_j5 app kt0 v1 v2 v3 v4 v5 v6 p8.2))))
  else
    (r64_j5 app kt0 v1 v2 v3 v4 v5 v6 H)
noncomputable def r64_j4 (app : App) (kt0 : Sl → Int → Int → AV → Int → Int → Hp → Option (Bool × Hp)) (kt1 : Sl → Int → Int → AV → Int → Int → Hp → Option (Bool × Hp)) (v1 : Sl) (v2 : Int) (v3 : Int) (v4 : AV) (v5 : Int) (v6 : Int) (v7 : Bool) (H : Hp) : Option (Bool × Hp) :=
  if v7 = true then
    (kt1 v1 v2 v3 v4 (w64 (v5 + 1)) v6 H)
  else
    (if v5 = v3 then
      (some (true, H))
    else
      (if (w64 (v3 - v2)) < 50 then
        (some (false, H))
      else
        (ck ((0 : Int) ≤ (w64 (v5 - 1)) ∧ (w64 (v5 - 1)) < (v1.len : Int)) (
        (H.ldI .i64 v1.b (v1.o + (w64 (v5 - 1) : Int).toNat * 2)).bind fun x5 =>
        (H.ldI .i64 v1.b ((v1.o + (w64 (v5 - 1) : Int).toNat * 2) + 1)).bind fun x6 =>
        ck ((0 : Int) ≤ v5 ∧ v5 < (v1.len : Int)) (
        (H.ldI .i64 v1.b (v1.o + (v5 : Int).toNat * 2)).bind fun x8 =>
        (H.ldI .i64 v1.b ((v1.o + (v5 : Int).toNat * 2) + 1)).bind fun x9 =>
        ck ((0 : Int) ≤ v5 ∧ v5 < (v1.len : Int)) (
        (H.sts v1.b (v1.o + (v5 : Int).toNat * 2) [.int .i64 x5, .int .i64 x6]).bind fun H11 =>
        ck ((0 : Int) ≤ (w64 (v5 - 1)) ∧ (w64 (v5 - 1)) < (v1.len : Int)) (
        (H11.sts v1.b (v1.o + (w64 (v5 - 1) : Int).toNat * 2) [.int .i64 x8, .int .i64 x9]).bind fun H13 =>
        if 2 ≤ (w64 (v5 - v2)) then
          (r64_l2 app kt0 FUEL v1 v2 v3 v4 v5 v6 (w64 (v5 - 1)) H13)
        else
          (r64_j5 app kt0 v1 v2 v3 v4 v5 v6 H13))))))))
noncomputable def r64_l1 (app : App) (kt0 : Sl → Int → Int → AV → Int → Int → Hp → Option (Bool × Hp)) : Nat → Sl → Int → Int → AV → Int → Int → Hp → Option (Bool × Hp)
  | 0, _, _, _, _, _, _, _ => none
  | k_ + 1, v1, v2, v3, v4, v5, v6, H => if v5 < v3 then
    (ck ((0 : Int) ≤ v5 ∧ v5 < (v1.len : Int)) (
    (H.ldI .i64 v1.b (v1.o + (v5 : Int).toNat * 2)).bind fun x3 =>
    (H.ldI .i64 v1.b ((v1.o + (v5 : Int).toNat * 2) + 1)).bind fun x4 =>
    ck ((0 : Int) ≤ (w64 (v5 - 1)) ∧ (w64 (v5 - 1)) < (v1.len : Int)) (
    (H.ldI .i64 v1.b (v1.o + (w64 (v5 - 1) : Int).toNat * 2)).bind fun x6 =>
    (H.ldI .i64 v1.b ((v1.o + (w64 (v5 - 1) : Int).toNat * 2) + 1)).bind fun x7 =>
    (callv app v4 [.agg [.int .i64 x3, .int .i64 x4], .agg [.int .i64 x6, .int .i64 x7]] H).bind fun p8 =>
    (p8.1.asI .i64).bind fun x9 =>
    r64_j4 app kt0 (fun v1_ v2_ v3_ v4_ v5_ v6_ H_ => r64_l1 app kt0 k_ v1_ v2_ v3_ v4_ v5_ v6_ H_) v1 v2 v3 v4 v5 v6 (!(decide (x9 < 0))) p8.2)))
  else
    (r64_j4 app kt0 (fun v1_ v2_ v3_ v4_ v5_ v6_ H_ => r64_l1 app kt0 k_ v1_ v2_ v3_ v4_ v5_ v6_ H_) v1 v2 v3 v4 v5 v6 false H)
noncomputable def r64_l0 (app : App) : Nat → Sl → Int → Int → AV → Int → Int → Hp → Option (Bool × Hp)
  | 0, _, _, _, _, _, _, _ => none
  | k_ + 1, v1, v2, v3, v4, v5, v6, H => if v6 < 5 then
    (r64_l1 app (fun v1_ v2_ v3_ v4_ v5_ v6_ H_ => r64_l0 app k_ v1_ v2_ v3_ v4_ v5_ v6_ H_) FUEL v1 v2 v3 v4 v5 v6 H)
  else
    (some (false, H))
noncomputable def r64 (app : App) (a0 : Sl) (a1 : Int) (a2 : Int) (a3 : AV) (H : Hp) : Option (Bool × Hp) :=
  r64_l0 app FUEL a0 a1 a2 a3 (w64 (a1 + 1)) 0 H
/- 65 slices.partitionEqualCmpFunc[[2]int] -/
def ret65 : Int → AV := fun r => .int .i64 r
noncomputable def r65_j4 (app : App) (kt0 : Sl → Int → AV → Int → Int → Hp → Option (Int × Hp)) (kt2 : Sl → Int → AV → Int → Int → Hp → Option (Int × Hp)) (v1 : Sl) (v2 : Int) (v3 : AV) (v4 : Int) (v5 : Int) (v6 : Bool) (H : Hp) : Option (Int × Hp) :=
  if v6 = true then
    (kt2 v1 v2 v3 v4 (w64 (v5 - 1)) H)
  else
    (if v5 < v4 then
      (some (v4, H))
    else
      (ck ((0 : Int) ≤ v5 ∧ v5 < (v1.len : Int)) (
      (H.ldI .i64 v1.b (v1.o + (v5 : Int).toNat * 2)).bind fun x4 =>
      (H.ldI .i64 v1.b ((v1.o + (v5 : Int).toNat * 2) + 1)).bind fun x5 =>
      ck ((0 : Int) ≤ v4 ∧ v4 < (v1.len : Int)) (
      (H.ldI .i64 v1.b (v1.o + (v4 : Int).toNat * 2)).bind fun x7 =>
      (H.ldI .i64 v1.b ((v1.o + (v4 : Int).toNat * 2) + 1)).bind fun x8 =>
      ck ((0 : Int) ≤ v4 ∧ v4 < (v1.len : Int)) (
      (H.sts v1.b (v1.o + (v4 : Int).toNat * 2) [.int .i64 x4, .int .i64 x5]).bind fun H10 =>
      ck ((0 : Int) ≤ v5 ∧ v5 < (v1.len : Int)) (
      (H10.sts v1.b (v1.o + (v5 : Int).toNat * 2) [.int .i64 x7, .int .i64 x8]).bind fun H12 =>
      kt0 v1 v2 v3 (w64 (v4 + 1)) (w64 (v5 - 1)) H12))))))
noncomputable def r65_l2 (app : App) (kt0 : Sl → Int → AV → Int → Int → Hp → Option (Int × Hp)) : Nat → Sl → Int → AV → Int → Int → Hp → Option (Int × Hp)
  | 0, _, _, _, _, _, _ => none
  | k_ + 1, v1, v2, v3, v4, v5, H => if v4 ≤ v5 then
    (ck ((0 : Int) ≤ v2 ∧ v2 < (v1.len : Int)) (
    (H.ldI .i64 v1.b (v1.o + (v2 : Int).toNat * 2)).bind fun x3 =>
    (H.ldI .i64 v1.b ((v1.o + (v2 : Int).toNat * 2) + 1)).bind fun x4 =>
    ck ((0 : Int) ≤ v5 ∧ v5 < (v1.len : Int)) (
    (H.ldI .i64 v1.b (v1.o + (v5 : Int).toNat * 2)).bind fun x6 =>
    (H.ldI .i64 v1.b ((v1.o + (v5 : Int).toNat * 2) + 1)).bind fun x7 =>
    (callv app v3 [.agg [.int .i64 x3, .int .i64 x4], .agg [.int .i64 x6, .int .i64 x7]] H).bind fun p8 =>
    (p8.1.asI .i64).bind fun x9 =>
    r65_j4 app kt0 (fun v1_ v2_ v3_ v4_ v5_ H_ => r65_l2 app kt0 k_ v1_ v2_ v3_ v4_ v5_ H_) v1 v2 v3 v4 v5 (decide (x9 < 0)) p8.2)))
  else
    (r65_j4 app kt0 (fun v1_ v2_ v3_ v4_ v5_ H_ => r65_l2 app kt0 k_ v1_ v2_ v3_ v4_ v5_ H_) v1 v2 v3 v4 v5 false H)
noncomputable def r65_j3 (app : App) (kt0 : Sl → Int → AV → Int → Int → Hp → Option (Int × Hp)) (kt1 : Sl → Int → AV → Int → Int → Hp → Option (Int × Hp)) (v1 : Sl) (v2 : Int) (v3 : AV) (v4 : Int) (v5 : Int) (v6 : Bool) (H : Hp) : Option (Int × Hp) :=
  if v6 = true then
    (kt1 v1 v2 v3 (w64 (v4 + 1)) v5 H)
  else
    (r65_l2 app kt0 FUEL v1 v2 v3 v4 v5 H)
noncomputable def r65_l1 (app : App) (kt0 : Sl → Int → AV → Int → Int → Hp → Option (Int × Hp)) : Nat → Sl → Int → AV → Int → Int → Hp → Option (Int × Hp)
  | 0, _, _, _, _, _, _ => none
  | k_ + 1, v1, v2, v3, v4, v5, H => if v4 ≤ v5 then
    (ck ((0 : Int) ≤ v2 ∧ v2 < (v1.len : Int)) (
    (H.ldI .i64 v1.b (v1.o + (v2 : Int).toNat * 2)).bind fun x3 =>
    (H.ldI .i64 v1.b ((v1.o + (v2 : Int).toNat * 2) + 1)).bind fun x4 =>
    ck ((0 : Int) ≤ v4 ∧ v4 < (v1.len : Int)) (
    (H.ldI .i64 v1.b (v1.o + (v4 : Int).toNat * 2)).bind fun x6 =>
    (H.ldI .i64 v1.b ((v1.o + (v4 : Int).toNat * 2) + 1)).bind fun x7 =>
    (callv app v3 [.agg [.int .i64 x3, .int .i64 x4], .agg [.int .i64 x6, .int .i64 x7]] H).bind fun p8 =>
    (p8.1.asI .i64).bind fun x9 =>
    r65_j3 app kt0 (fun v1_ v2_ v3_ v4_ v5_ H_ => r65_l1 app kt0 k_ v1_ v2_ v3_ v4_ v5_ H_) v1 v2 v3 v4 v5 (!(decide (x9 < 0))) p8.2)))
  else
    (r65_j3 app kt0 (fun v1_ v2_ v3_ v4_ v5_ H_ => r65_l1 app kt0 k_ v1_ v2_ v3_ v4_ v5_ H_) v1 v2 v3 v4 v5 false H)
noncomputable def r65_l0 (app : App) : Nat → Sl → Int → AV → Int → Int → Hp → Option (Int × Hp)
  | 0, _, _, _, _, _, _ => none
  | k_ + 1, v1, v2, v3, v4, v5, H => r65_l1 app (fun v1_ v2_ v3_ v4_ v5_ H_ => r65_l0 app k_ v1_ v2_ v3_ v4_ v5_ H_) FUEL v1 v2 v3 v4 v5 H
noncomputable def r65 (app : App) (a0 : Sl) (a1 : Int) (a2 : Int) (a3 : Int) (a4 : AV) (H : Hp) : Option (Int × Hp) :=
  ck ((0 : Int) ≤ a3 ∧ a3 < (a0.len : Int)) (
  (H.ldI .i64 a0.b (a0.o + (a3 : Int).toNat * 2)).bind fun x2 =>
  (H.ldI .i64 a0.b ((a0.o + (a3 : Int).toNat * 2) + 1)).bind fun x3 =>
  ck ((0 : Int) ≤ a1 ∧ a1 < (a0.len : Int)) (
  (H.ldI .i64 a0.b (a0.o + (a1 : Int).toNat * 2)).bind fun x5 =>
  (H.ldI .i64 a0.b ((a0.o + (a1 : Int).toNat * 2) + 1)).bind fun x6 =>
  ck ((0 : Int) ≤ a1 ∧ a1 < (a0.len : Int)) (
  (H.sts a0.b (a0.o + (a1 : Int).toNat * 2) [.int .i64 x2, .int .i64 x3]).bind fun H8 =>
  ck ((0 : Int) ≤ a3 ∧ a3 < (a0.len : Int)) (
  (H8.sts a0.b (a0.o + (a3 : Int).toNat * 2) [.int .i64 x5, .int .i64 x6]).bind fun H10 =>
  r65_l0 app FUEL a0 a1 a4 (w64 (a1 + 1)) (w64 (a2 - 1)) H10))))
/- 66 slices.partitionCmpFunc[[2]int] -/
def ret66 : Int × Bool → AV := fun r => .tup [.int .i64 r.1, .bool r.2]
noncomputable def r66_j8 (app : App) (kt3 : Sl → Int → AV → Int → Int → Hp → Option ((Int × Bool) × Hp)) (kt6 : Sl → Int → AV → Int → Int → Hp → Option ((Int × Bool) × Hp)) (v1 : Sl) (v2 : Int) (v3 : AV) (v4 : Int) (v5 : Int) (v6 : Bool) (H : Hp) : Option ((Int × Bool) × Hp) :=
  if v6 = true then
    (kt6 v1 v2 v3 v4 (w64 (v5 - 1)) H)
  else
    (if v5 < v4 then
      (ck ((0 : Int) ≤ v2 ∧ v2 < (v1.len : Int)) (
      (H.ldI .i64 v1.b (v1.o + (v2 : Int).toNat * 2)).bind fun x4 =>
      (H.ldI .i64 v1.b ((v1.o + (v2 : Int).toNat * 2) + 1)).bind fun x5 =>
      ck ((0 : Int) ≤ v5 ∧ v5 < (v1.len : Int)) (
      (H.ldI .i64 v1.b (v1.o + (v5 : Int).toNat * 2)).bind fun x7 =>
      (H.ldI .i64 v1.b ((v1.o + (v5 : Int).toNat * 2) + 1)).bind fun x8 =>
      ck ((0 : Int) ≤ v5 ∧ v5 < (v1.len : Int)) (
      (H.sts v1.b (v1.o + (v5 : Int).toNat * 2) [.int .i64 x4, .int .i64 x5]).bind fun H10 =>
      ck ((0 : Int) ≤ v2 ∧ v2 < (v1.len : Int)) (
      (H10.sts v1.b (v1.o + (v2 : Int).toNat * 2) [.int .i64 x7, .int .i64 x8]).bind fun H12 =>
      some ((v5, false), H12))))))
    else
      (ck ((0 : Int) ≤ v5 ∧ v5 < (v1.len : Int)) (
      (H.ldI .i64 v1.b (v1.o + (v5 : Int).toNat * 2)).bind fun x14 =>
      (H.ldI .i64 v1.b ((v1.o + (v5 : Int).toNat * 2) + 1)).bind fun x15 =>
      ck ((0 : Int) ≤ v4 ∧ v4 < (v1.len : Int)) (
      (H.ldI .i64 v1.b (v1.o + (v4 : Int).toNat * 2)).bind fun x17 =>
      (H.ldI .i64 v1.b ((v1.o + (v4 : Int).toNat * 2) + 1)).bind fun x18 =>
      ck ((0 : Int) ≤ v4 ∧ v4 < (v1.len : Int)) (
      (H.sts v1.b (v1.o + (v4 : Int).toNat * 2) [.int .i64 x14, .int .i64 x15]).bind fun H20 =>
      ck ((0 : Int) ≤ v5 ∧ v5 < (v1.len : Int)) (
      (H20.sts v1.b (v1.o + (v5 : Int).toNat * 2) [.int .i64 x17, .int .i64 x18]).bind fun H22 =>
      kt3 v1 v2 v3 (w64 (v4 + 1)) (w64 (v5 - 1)) H22))))))
noncomputable def r66_l6 (app : App) (kt3 : Sl → Int → AV → Int → Int → Hp → Option ((Int × Bool) × Hp)) : Nat → Sl → Int → AV → Int → Int → Hp → Option ((Int × Bool) × Hp)
  | 0, _, _, _, _, _, _ => none
  | k_ + 1, v1, v2, v3, v4, v5, H => if v4 ≤ v5 then
    (ck ((0 : Int) ≤ v5 ∧ v5 < (v1.len : Int)) (
    (H.ldI .i64 v1.b (v1.o + (v5 : Int).toNat * 2)).bind fun x3 =>
    (H.ldI .i64 v1.b ((v1.o + (v5 : Int).toNat * 2) + 1)).bind fun x4 =>
    ck ((0 : Int) ≤ v2 ∧ v2 < (v1.len : Int)) (
    (H.ldI .i64 v1.b (v1.o + (v2 : Int).toNat * 2)).bind fun x6 =>
    (H.ldI .i64 v1.b ((v1.o + (v2 : Int).toNat * 2) + 1)).bind fun x7 =>
    (callv app v3 [.agg [.int .i64 x3, .int .i64 x4], .agg [.int .i64 x6, .int .i64 x7]] H).bind fun p8 =>
    (p8.1.asI .i64).bind fun x9 =>
    r66_j8 app kt3 (fun v1_ v2_ v3_ v4_ v5_ H_ => r66_l6 app kt3 k_ v1_ v2_ v3_ v4_ v5_ H_) v1 v2 v3 v4 v5 (!(decide (x9 < 0))) p8.2)))
  else
    (r66_j8 app kt3 (fun v1_ v2_ v3_ v4_ v5_ H_ => r66_l6 app kt3 k_ v1_ v2_ v3_ v4_ v5_ H_) v1 v2 v3 v4 v5 false H)
noncomputable def r66_j7 (app : App) (kt3 : Sl → Int → AV → Int → Int → Hp → Option ((Int × Bool) × Hp)) (kt5 : Sl → Int → AV → Int → Int → Hp → Option ((Int × Bool) × Hp)) (v1 : Sl) (v2 : Int) (v3 : AV) (v4 : Int) (v5 : Int) (v6 : Bool) (H : Hp) : Option ((Int × Bool) × Hp) :=
  if v6 = true then
    (kt5 v1 v2 v3 (w64 (v4 + 1)) v5 H)
  else
    (r66_l6 app kt3 FUEL v1 v2 v3 v4 v5 H)
noncomputable def r66_l5 (app : App) (kt3 : Sl → Int → AV → Int → Int → Hp → Option ((Int × Bool) × Hp)) : Nat → Sl → Int → AV → Int → Int → Hp → Option ((Int × Bool) × Hp)
  | 0, _, _, _, _, _, _ => none
  | k_ + 1, v1, v2, v3, v4, v5, H => if v4 ≤ v5 then
    (ck ((0 : Int) ≤ v4 ∧ v4 < (v1.len : Int)) (
    (H.ldI .i64 v1.b (v1.o + (v4 : Int).toNat * 2)).bind fun x3 =>
    (H.ldI .i64 v1.b ((v1.o + (v4 : Int).toNat * 2) + 1)).bind fun x4 =>
    ck ((0 : Int) ≤ v2 ∧ v2 < (v1.len : Int)) (
    (H.ldI .i64 v1.b (v1.o + (v2 : Int).toNat * 2)).bind fun x6 =>
    (H.ldI .i64 v1.b ((v1.o + (v2 : Int).toNat * 2) + 1)).bind fun x7 =>
    (callv app v3 [.agg [.int .i64 x3, .int .i64 x4], .agg [.int .i64 x6, .int .i64 x7]] H).bind fun p8 =>
    (p8.1.asI .i64).bind fun x9 =>
    r66_j7 app kt3 (fun v1_ v2_ v3_ v4_ v5_ H_ => r66_l5 app kt3 k_ v1_ v2_ v3_ v4_ v5_ H_) v1 v2 v3 v4 v5 (decide (x9 < 0)) p8.2)))
  else
    (r66_j7 app kt3 (fun v1_ v2_ v3_ v4_ v5_ H_ => r66_l5 app kt3 k_ v1_ v2_ v3_ v4_ v5_ H_) v1 v2 v3 v4 v5 false H)
noncomputable def r66_l3 (app : App) : Nat → Sl → Int → AV → Int → Int → Hp → Option ((Int × Bool) × Hp)
  | 0, _, _, _, _, _, _ => none
  | k_ + 1, v1, v2, v3, v4, v5, H => r66_l5 app (fun v1_ v2_ v3_ v4_ v5_ H_ => r66_l3 app k_ v1_ v2_ v3_ v4_ v5_ H_) FUEL v1 v2 v3 v4 v5 H
noncomputable def r66_j4 (app : App) (kt1 : Sl → Int → AV → Int → Int → Hp → Option ((Int × Bool) × Hp)) (v1 : Sl) (v2 : Int) (v3 : AV) (v4 : Int) (v5 : Int) (v6 : Bool) (H : Hp) : Option ((Int × Bool) × Hp) :=
  if v6 = true then
    (kt1 v1 v2 v3 v4 (w64 (v5 - 1)) H)
  else
    (if v5 < v4 then
      (ck ((0 : Int) ≤ v2 ∧ v2 < (v1.len : Int)) (
      (H.ldI .i64 v1.b (v1.o + (v2 : Int).toNat * 2)).bind fun x4 =>
      (H.ldI .i64 v1.b ((v1.o + (v2 : Int).toNat * 2) + 1)).bind fun x5 =>
      ck ((0 : Int) ≤ v5 ∧ v5 < (v1.len : Int)) (
      (H.ldI .i64 v1.b (v1.o + (v5 : Int).toNat * 2)).bind fun x7 =>
      (H.ldI .i64 v1.b ((v1.o + (v5 : Int).toNat * 2) + 1)).bind fun x8 =>
      ck ((0 : Int) ≤ v5 ∧ v5 < (v1.len : Int)) (
      (H.sts v1.b (v1.o + (v5 : Int).toNat * 2) [.int .i64 x4, .int .i64 x5]).bind fun H10 =>
      ck ((0 : Int) ≤ v2 ∧ v2 < (v1.len : Int)) (
      (H10.sts v1.b (v1.o + (v2 : Int).toNat * 2) [.int .i64 x7, .int .i64 x8]).bind fun H12 =>
      some ((v5, true), H12))))))
    else
      (ck ((0 : Int) ≤ v5 ∧ v5 < (v1.len : Int)) (
      (H.ldI .i64 v1.b (v1.o + (v5 : Int).toNat * 2)).bind fun x14 =>
      (H.ldI .i64 v1.b ((v1.o + (v5 : Int).toNat * 2) + 1)).bind fun x15 =>
      ck ((0 : Int) ≤ v4 ∧ v4 < (v1.len : Int)) (
      (H.ldI .i64 v1.b (v1.o + (v4 : Int).toNat * 2)).bind fun x17 =>
      (H.ldI .i64 v1.b ((v1.o + (v4 : Int).toNat * 2) + 1)).bind fun x18 =>
      ck ((0 : Int) ≤ v4 ∧ v4 < (v1.len : Int)) (
      (H.sts v1.b (v1.o + (v4 : Int).toNat * 2) [.int .i64 x14, .int .i64 x15]).bind fun H20 =>
      ck ((0 : Int) ≤ v5 ∧ v5 < (v1.len : Int)) (
      (H20.sts v1.b (v1.o + (v5 : Int).toNat * 2) [.int .i64 x17, .int .i64 x18]).bind fun H22 =>
      r66_l3 app FUEL v1 v2 v3 (w64 (v4 + 1)) (w64 (v5 - 1)) H22))))))
noncomputable def r66_l1 (app : App) : Nat → Sl → Int → AV → Int → Int → Hp → Option ((Int × Bool) × Hp)
  | 0, _, _, _, _, _, _ => none
  | k_ + 1, v1, v2, v3, v4, v5, H => if v4 ≤ v5 then
    (ck ((0 : Int) ≤ v5 ∧ v5 < (v1.len : Int)) (
    (H.ldI .i64 v1.b (v1.o + (v5 : Int).toNat * 2)).bind fun x3 =>
    (H.ldI .i64 v1.b ((v1.o + (v5 : Int).toNat * 2) + 1)).bind fun x4 =>
    ck ((0 : Int) ≤ v2 ∧ v2 < (v1.len : Int)) (
    (H.ldI .i64 v1.b (v1.o + (v2 : Int).toNat * 2)).bind fun x6 =>
    (H.ldI .i64 v1.b ((v1.o + (v2 : Int).toNat * 2) + 1)).bind fun x7 =>
    (callv app v3 [.agg [.int .i64 x3, .int .i64 x4], .agg [.int .i64 x6, .int .i64 x7]] H).bind fun p8 =>
    (p8.1.asI .i64).bind fun x9 =>
    r66_j4 app (fun v1_ v2_ v3_ v4_ v5_ H_ => r66_l1 app k_ v1_ v2_ v3_ v4_ v5_ H_) v1 v2 v3 v4 v5 (!(decide (x9 < 0))) p8.2)))
  else
    (r66_j4 app (fun v1_ v2_ v3_ v4_ v5_ H_ => r66_l1 app k_ v1_ v2_ v3_ v4_ v5_ H_) v1 v2 v3 v4 v5 false H)
noncomputable def r66_j2 (app : App) (kt0 : Sl → Int → AV → Int → Int → Hp → Option ((Int × Bool) × Hp)) (v1 : Sl) (v2 : Int) (v3 : AV) (v4 : Int) (v5 : Int) (v6 : Bool) (H : Hp) : Option ((Int × Bool) × Hp) :=
  if v6 = true then
    (kt0 v1 v2 v3 (w64 (v4 + 1)) v5 H)
  else
    (r66_l1 app FUEL v1 v2 v3 v4 v5 H)
noncomputable def r66_l0 (app : App) : Nat → Sl → Int → AV → Int → Int → Hp → Option ((Int × Bool) × Hp)
  | 0, _, _, _, _, _, _ => none
  | k_ + 1, v1, v2, v3, v4, v5, H => if v4 ≤ v5 then
    (ck ((0 : Int) ≤ v4 ∧ v4 < (v1.len : Int)) (
    (H.ldI .i64 v1.b (v1.o + (v4 : Int).toNat * 2)).bind fun x3 =>
    (H.ldI .i64 v1.b ((v1.o + (v4 : Int).toNat * 2) + 1)).bind fun x4 =>
    ck ((0 : Int) ≤ v2 ∧ v2 < (v1.len : Int)) (
    (H.ldI .i64 v1.b (v1.o + (v2 : Int).toNat * 2)).bind fun x6 =>
    (H.ldI .i64 v1.b ((v1.o + (v2 : Int).toNat * 2) + 1)).bind fun x7 =>
    (callv app v3 [.agg [.int .i64 x3, .int .i64 x4], .agg [.int .i64 x6, .int .i64 x7]] H).bind fun p8 =>
    (p8.1.asI .i64).bind fun x9 =>
    r66_j2 app (fun v1_ v2_ v3_ v4_ v5_ H_ => r66_l0 app k_ v1_ v2_ v3_ v4_ v5_ H_) v1 v2 v3 v4 v5 (decide (x9 < 0)) p8.2)))
  else
    (r66_j2 app (fun v1_ v2_ v3_ v4_ v5_ H_ => r66_l0 app k_ v1_ v2_ v3_ v4_ v5_ H_) v1 v2 v3 v4 v5 false H)
noncomputable def r66 (app : App) (a0 : Sl) (a1 : Int) (a2 : Int) (a3 : Int) (a4 : AV) (H : Hp) : Option ((Int × Bool) × Hp) :=
  ck ((0 : Int) ≤ a3 ∧ a3 < (a0.len : Int)) (
  (H.ldI .i64 a0.b (a0.o + (a3 : Int).toNat * 2)).bind fun x2 =>
  (H.ldI .i64 a0.b ((a0.o + (a3 : Int).toNat * 2) + 1)).bind fun x3 =>
  ck ((0 : Int) ≤ a1 ∧ a1 < (a0.len : Int)) (
  (H.ldI .i64 a0.b (a0.o + (a1 : Int).toNat * 2)).bind fun x5 =>
  (H.ldI .i64 a0.b ((a0.o + (a1 : Int).toNat * 2) + 1)).bind fun x6 =>
  ck ((0 : Int) ≤ a1 ∧ a1 < (a0.len : Int)) (
  (H.sts a0.b (a0.o + (a1 : Int).toNat * 2) [.int .i64 x2, .int .i64 x3]).bind fun H8 =>
  ck ((0 : Int) ≤ a3 ∧ a3 < (a0.len : Int)) (
  (H8.sts a0.b (a0.o + (a3 : Int).toNat * 2) [.int .i64 x5, .int .i64 x6]).bind fun H10 =>
  r66_l0 app FUEL a0 a1 a4 (w64 (a1 + 1)) (w64 (a2 - 1)) H10))))
/- 57 slices.pdqsortCmpFunc[[2]int] -/
def ret57 : Unit → AV := fun _ => .tup []
noncomputable def r57_j1 (app : App) (kt0 : Sl → Int → Int → Int → AV → Bool → Bool → Hp → Option (Unit × Hp)) (v1 : Sl) (v2 : Int) (v3 : Int) (v4 : Int) (v5 : AV) (v6 : Bool) (v7 : Bool) (v8 : Int) (v9 : Int) (v10 : Bool) (H : Hp) : Option (Unit × Hp) :=
  if v10 = true then
    ((r65 app v1 v2 v3 v9 v5 H).bind fun p2 =>
    kt0 v1 p2.1 v3 v4 v5 v6 v7 p2.2)
  else
    ((r66 app v1 v2 v3 v9 v5 H).bind fun p3 =>
    if (w64 (p3.1.1 - v2)) < (w64 (v3 - p3.1.1)) then
      ((app 57 [.sl v1, .int .i64 v2, .int .i64 p3.1.1, .int .i64 v4, v5] p3.2).bind fun p5 =>
      kt0 v1 (w64 (p3.1.1 + 1)) v3 v4 v5 (decide ((w64 (Int.tdiv v8 8)) ≤ (w64 (p3.1.1 - v2)))) p3.1.2 p5.2)
    else
      ((app 57 [.sl v1, .int .i64 (w64 (p3.1.1 + 1)), .int .i64 v3, .int .i64 v4, v5] p3.2).bind fun p6 =>
      kt0 v1 v2 p3.1.1 v4 v5 (decide ((w64 (Int.tdiv v8 8)) ≤ (w64 (v3 - p3.1.1)))) p3.1.2 p6.2))
noncomputable def r57_j2 (app : App) (kt0 : Sl → Int → Int → Int → AV → Bool → Bool → Hp → Option (Unit × Hp)) (v1 : Sl) (v2 : Int) (v3 : Int) (v4 : Int) (v5 : AV) (v6 : Bool) (v7 : Bool) (v8 : Int) (v9 : Int) (H : Hp) : Option (Unit × Hp) :=
  if 0 < v2 then
    (ck ((0 : Int) ≤ (w64 (v2 - 1)) ∧ (w64 (v2 - 1)) < (v1.len : Int)) (
    (H.ldI .i64 v1.b (v1.o + (w64 (v2 - 1) : Int).toNat * 2)).bind fun x3 =>
    (H.ldI .i64 v1.b ((v1.o + (w64 (v2 - 1) : Int).toNat * 2) + 1)).bind fun x4 =>
    ck ((0 : Int) ≤ v9 ∧ v9 < (v1.len : Int)) (
    (H.ldI .i64 v1.b (v1.o + (v9 : Int).toNat * 2)).bind fun x6 =>
    (H.ldI .i64 v1.b ((v1.o + (v9 : Int).toNat * 2) + 1)).bind fun x7 =>
    (callv app v5 [.agg [.int .i64 x3, .int .i64 x4], .agg [.int .i64 x6, .int .i64 x7]] H).bind fun p8 =>
    (p8.1.asI .i64).bind fun x9 =>
    r57_j1 app kt0 v1 v2 v3 v4 v5 v6 v7 v8 v9 (!(decide (x9 < 0))) p8.2)))
  else
    (r57_j1 app kt0 v1 v2 v3 v4 v5 v6 v7 v8 v9 false H)
noncomputable def r57_j3 (app : App) (kt0 : Sl → Int → Int → Int → AV → Bool → Bool → Hp → Option (Unit × Hp)) (v1 : Sl) (v2 : Int) (v3 : Int) (v4 : Int) (v5 : AV) (v6 : Bool) (v7 : Bool) (v8 : Int) (v9 : Int) (v10 : Bool) (H : Hp) : Option (Unit × Hp) :=
  if v10 = true then
    ((r64 app v1 v2 v3 v5 H).bind fun p2 =>
    if p2.1 = true then
      (some ((), p2.2))
    else
      (r57_j2 app kt0 v1 v2 v3 v4 v5 v6 v7 v8 v9 p2.2))
  else
    (r57_j2 app kt0 v1 v2 v3 v4 v5 v6 v7 v8 v9 H)
noncomputable def r57_j4 (app : App) (kt0 : Sl → Int → Int → Int → AV → Bool → Bool → Hp → Option (Unit × Hp)) (v1 : Sl) (v2 : Int) (v3 : Int) (v4 : Int) (v5 : AV) (v6 : Bool) (v7 : Bool) (v8 : Int) (v9 : Int) (v10 : Int) (H : Hp) : Option (Unit × Hp) :=
  if v6 = true then
    (if v7 = true then
      (r57_j3 app kt0 v1 v2 v3 v4 v5 true true v8 v9 (decide (v10 = 1)) H)
    else
      (r57_j3 app kt0 v1 v2 v3 v4 v5 true false v8 v9 false H))
  else
    (r57_j3 app kt0 v1 v2 v3 v4 v5 false v7 v8 v9 false H)
noncomputable def r57_j5 (app : App) (kt0 : Sl → Int → Int → Int → AV → Bool → Bool → Hp → Option (Unit × Hp)) (v1 : Sl) (v2 : Int) (v3 : Int) (v4 : Int) (v5 : AV) (v6 : Bool) (v7 : Bool) (v8 : Int) (H : Hp) : Option (Unit × Hp) :=
  (r62 app v1 v2 v3 v5 H).bind fun p1 =>
  if p1.1.2 = 2 then
    ((r63 v1 v2 v3 v5 p1.2).bind fun p3 =>
    r57_j4 app kt0 v1 v2 v3 v4 v5 v6 v7 v8 (w64 ((w64 (v3 - 1)) - (w64 (p1.1.1 - v2)))) 1 p3.2)
  else
    (r57_j4 app kt0 v1 v2 v3 v4 v5 v6 v7 v8 p1.1.1 p1.1.2 p1.2)
noncomputable def r57_l0 (app : App) : Nat → Sl → Int → Int → Int → AV → Bool → Bool → Hp → Option (Unit × Hp)
  | 0, _, _, _, _, _, _, _, _ => none
  | k_ + 1, v1, v2, v3, v4, v5, v6, v7, H => if (w64 (v3 - v2)) ≤ 12 then
    ((r59 app v1 v2 v3 v5 H).bind fun p2 =>
    some ((), p2.2))
  else
    (if v4 = 0 then
      ((r60 app v1 v2 v3 v5 H).bind fun p4 =>
      some ((), p4.2))
    else
      (if v6 = true then
        (r57_j5 app (fun v1_ v2_ v3_ v4_ v5_ v6_ v7_ H_ => r57_l0 app k_ v1_ v2_ v3_ v4_ v5_ v6_ v7_ H_) v1 v2 v3 v4 v5 true v7 (w64 (v3 - v2)) H)
      else
        ((r61 v1 v2 v3 v5 H).bind fun p6 =>
        r57_j5 app (fun v1_ v2_ v3_ v4_ v5_ v6_ v7_ H_ => r57_l0 app k_ v1_ v2_ v3_ v4_ v5_ v6_ v7_ H_) v1 v2 v3 (w64 (v4 - 1)) v5 false v7 (w64 (v3 - v2)) p6.2)))
noncomputable def r57 (app : App) (a0 : Sl) (a1 : Int) (a2 : Int) (a3 : Int) (a4 : AV) (H : Hp) : Option (Unit × Hp) :=
  r57_l0 app FUEL a0 a1 a2 a3 a4 true true H
/- 52 slices.SortFunc[[][2]int,[2]int] -/
def ret52 : Unit → AV := fun _ => .tup []
noncomputable def r52 (app : App) (a0 : Sl) (a1 : AV) (H : Hp) : Option (Unit × Hp) :=
  (r58 (IntKind.wrap .u64 ((a0.len : Int))) H).bind fun p1 =>
  (r57 app a0 0 (a0.len : Int) p1.1 a1 p1.2).bind fun p2 =>
  some ((), p2.2)
/- 40 slices.SortedFunc[[2]int] -/
def ret40 : Sl → AV := fun r => .sl r
noncomputable def r40 (app : App) (a0 : AV) (a1 : AV) (H : Hp) : Option (Sl × Hp) :=
  (r51 app a0 H).bind fun p1 =>
  (r52 app p1.1 a1 p1.2).bind fun p2 =>
  some (p1.1, p2.2)
/- 41 slices.Values[congou/deals.offers,[2]int] -/
def ret41 : AV → AV := fun r => r
noncomputable def r41 (a0 : Sl) (H : Hp) : Option (AV × Hp) :=
  lt (H.push (.cells [.sl a0] false)) fun H1 =>
  some (.fn 53 [] [.ptr H.n 0], H1)
/- 54 cmp.isNaN[int] -/
def ret54 : Bool → AV := fun r => .bool r
noncomputable def r54 (a0 : Int) (H : Hp) : Option (Bool × Hp) :=
  some ((decide (a0 ≠ a0)), H)
/- 46 cmp.Compare[int] -/
def ret46 : Int → AV := fun r => .int .i64 r
noncomputable def r46 (a0 : Int) (a1 : Int) (H : Hp) : Option (Int × Hp) :=
  (r54 a0 H0).bind fun p1 =>
  (r54 a1 H0).bind fun p2 =>
  if p1.1 = true then
    (if p2.1 = true then
      (some (0, H))
    else
      (some ((-1), H)))
  else
    (if p2.1 = true then
      (some (1, H))
    else
      (if a0 < a1 then
        (some ((-1), H))
      else
        (if a1 < a0 then
          (some (1, H))
        else
          (some (0, H)))))
/- 43 slices.Compare[[]int,int] -/
def ret43 : Int → AV := fun r => .int .i64 r
noncomputable def r43_l0 : Nat → Sl → Sl → Sl → Int → Int → Hp → Option (Int × Hp)
  | 0, _, _, _, _, _, _ => none
  | k_ + 1, v1, v2, v3, v4, v5, H => if v5 < v4 then
    (ck ((0 : Int) ≤ v5 ∧ v5 < (v3.len : Int)) (
    (H.ldI .i64 v3.b (v3.o + (v5 : Int).toNat * 1)).bind fun x3 =>
    if (v2.len : Int) ≤ v5 then
      (some (1, H))
    else
      (ck ((0 : Int) ≤ v5 ∧ v5 < (v2.len : Int)) (
      (H.ldI .i64 v2.b (v2.o + (v5 : Int).toNat * 1)).bind fun x6 =>
      (r46 x3 x6 H0).bind fun p7 =>
      if p7.1 ≠ 0 then
        (some (p7.1, H))
      else
        (r43_l0 k_ v1 v2 v3 v4 (w64 (v5 + 1)) H)))))
  else
    (if (v1.len : Int) < (v2.len : Int) then
      (some ((-1), H))
    else
      (some (0, H)))
noncomputable def r43 (a0 : Sl) (a1 : Sl) (H : Hp) : Option (Int × Hp) :=
  r43_l0 FUEL a0 a1 a0 (a0.len : Int) 0 H
/- 42 (congou/deals.offers).edge$1 -/
def ret42 : Int → AV := fun r => .int .i64 r
noncomputable def r42 (a0_0 : Int) (a0_1 : Int) (a1_0 : Int) (a1_1 : Int) (H : Hp) : Option (Int × Hp) :=
  lt ((H.push (.cells [.int .i64 a0_0, .int .i64 a0_1] false)).push (.cells [.int .i64 a1_0, .int .i64 a1_1] false)) fun H1 =>
  (r43 ⟨false, H.n, 0 + (0 : Int).toNat * 1, (((2 : Nat) : Int) : Int).toNat - (0 : Int).toNat, 2 - (0 : Int).toNat, 0⟩ ⟨false, (H.push (.cells [.int .i64 a0_0, .int .i64 a0_1] false)).n, 0 + (0 : Int).toNat * 1, (((2 : Nat) : Int) : Int).toNat - (0 : Int).toNat, 2 - (0 : Int).toNat, 0⟩ H1).bind fun p2 =>
  some (p2.1, p2.2)
/- 44 congou/deals.turns -/
def ret44 : Int → AV := fun r => .int .i64 r
noncomputable def r44 (a0_0 : Int) (a0_1 : Int) (a1_0 : Int) (a1_1 : Int) (a2_0 : Int) (a2_1 : Int) (H : Hp) : Option (Int × Hp) :=
  lt (((H.push (.cells [.int .i64 a0_0, .int .i64 a0_1] false)).push (.cells [.int .i64 a1_0, .int .i64 a1_1] false)).push (.cells [.int .i64 a2_0, .int .i64 a2_1] false)) fun H1 =>
  (H1.ldI .i64 ((H.push (.cells [.int .i64 a0_0, .int .i64 a0_1] false)).n) (0 + (0 : Int).toNat * 1)).bind fun x2 =>
  (H1.ldI .i64 H.n (0 + (0 : Int).toNat * 1)).bind fun x3 =>
  (H1.ldI .i64 (((H.push (.cells [.int .i64 a0_0, .int .i64 a0_1] false)).push (.cells [.int .i64 a1_0, .int .i64 a1_1] false)).n) (0 + (1 : Int).toNat * 1)).bind fun x4 =>
  (H1.ldI .i64 ((H.push (.cells [.int .i64 a0_0, .int .i64 a0_1] false)).n) (0 + (1 : Int).toNat * 1)).bind fun x5 =>
  (H1.ldI .i64 ((H.push (.cells [.int .i64 a0_0, .int .i64 a0_1] false)).n) (0 + (1 : Int).toNat * 1)).bind fun x6 =>
  (H1.ldI .i64 H.n (0 + (1 : Int).toNat * 1)).bind fun x7 =>
  (H1.ldI .i64 (((H.push (.cells [.int .i64 a0_0, .int .i64 a0_1] false)).push (.cells [.int .i64 a1_0, .int .i64 a1_1] false)).n) (0 + (0 : Int).toNat * 1)).bind fun x8 =>
  (H1.ldI .i64 ((H.push (.cells [.int .i64 a0_0, .int .i64 a0_1] false)).n) (0 + (0 : Int).toNat * 1)).bind fun x9 =>
  some (w64 ((w64 ((w64 (x2 - x3)) * (w64 (x4 - x5)))) - (w64 ((w64 (x6 - x7)) * (w64 (x8 - x9))))), H1)
/- 17 (congou/deals.offers).edge -/
def ret17 : Sl → AV := fun r => .sl r
noncomputable def r17_j4 (app : App) (kt0 : Sl → Sl → Int → Int → Hp → Option (Sl × Hp)) (kt2 : Sl → Nat → Sl → Int → Int → Hp → Option (Sl × Hp)) (v1 : Sl) (v2 : Nat) (v3 : Sl) (v4 : Int) (v5 : Int) (v6 : Bool) (H : Hp) : Option (Sl × Hp) :=
  if v6 = true then
    (ck (((0 : Int) ≤ 0 ∧ 0 ≤ (w64 ((v1.len : Int) - 1)) ∧ (w64 ((v1.len : Int) - 1)) ≤ (v1.cap : Int)) ∧ (v1.opn = 0 ∨ v1.opn = 2)) (
    kt2 (v1.cut 2 (0 : Int).toNat (w64 ((v1.len : Int) - 1) : Int).toNat) v2 v3 v4 v5 H))
  else
    ((H.ldI .i64 v2 0).bind fun x3 =>
    (H.ldI .i64 v2 (0 + 1)).bind fun x4 =>
    (H.apN 2 v1 [.int .i64 x3, .int .i64 x4] 1).bind fun x5 =>
    kt0 x5.1 v3 v4 (w64 (v5 + 1)) x5.2)
noncomputable def r17_l2 (app : App) (kt0 : Sl → Sl → Int → Int → Hp → Option (Sl × Hp)) : Nat → Sl → Nat → Sl → Int → Int → Hp → Option (Sl × Hp)
  | 0, _, _, _, _, _, _ => none
  | k_ + 1, v1, v2, v3, v4, v5, H => if 1 < (v1.len : Int) then
    (ck ((0 : Int) ≤ (w64 ((v1.len : Int) - 2)) ∧ (w64 ((v1.len : Int) - 2)) < (v1.len : Int)) (
    (H.ldI .i64 v1.b (v1.o + (w64 ((v1.len : Int) - 2) : Int).toNat * 2)).bind fun x3 =>
    (H.ldI .i64 v1.b ((v1.o + (w64 ((v1.len : Int) - 2) : Int).toNat * 2) + 1)).bind fun x4 =>
    ck ((0 : Int) ≤ (w64 ((v1.len : Int) - 1)) ∧ (w64 ((v1.len : Int) - 1)) < (v1.len : Int)) (
    (H.ldI .i64 v1.b (v1.o + (w64 ((v1.len : Int) - 1) : Int).toNat * 2)).bind fun x6 =>
    (H.ldI .i64 v1.b ((v1.o + (w64 ((v1.len : Int) - 1) : Int).toNat * 2) + 1)).bind fun x7 =>
    (H.ldI .i64 v2 0).bind fun x8 =>
    (H.ldI .i64 v2 (0 + 1)).bind fun x9 =>
    (r44 x3 x4 x6 x7 x8 x9 H0).bind fun p10 =>
    r17_j4 app kt0 (fun v1_ v2_ v3_ v4_ v5_ H_ => r17_l2 app kt0 k_ v1_ v2_ v3_ v4_ v5_ H_) v1 v2 v3 v4 v5 (decide (0 ≤ p10.1)) H)))
  else
    (r17_j4 app kt0 (fun v1_ v2_ v3_ v4_ v5_ H_ => r17_l2 app kt0 k_ v1_ v2_ v3_ v4_ v5_ H_) v1 v2 v3 v4 v5 false H)
noncomputable def r17_j3 (app : App) (kt0 : Sl → Sl → Int → Int → Hp → Option (Sl × Hp)) (kt1 : Sl → Nat → Sl → Int → Int → Hp → Option (Sl × Hp)) (v1 : Sl) (v2 : Nat) (v3 : Sl) (v4 : Int) (v5 : Int) (v6 : Bool) (H : Hp) : Option (Sl × Hp) :=
  if v6 = true then
    (ck (((0 : Int) ≤ 0 ∧ 0 ≤ (w64 ((v1.len : Int) - 1)) ∧ (w64 ((v1.len : Int) - 1)) ≤ (v1.cap : Int)) ∧ (v1.opn = 0 ∨ v1.opn = 2)) (
    kt1 (v1.cut 2 (0 : Int).toNat (w64 ((v1.len : Int) - 1) : Int).toNat) v2 v3 v4 v5 H))
  else
    (r17_l2 app kt0 FUEL v1 v2 v3 v4 v5 H)
noncomputable def r17_l1 (app : App) (kt0 : Sl → Sl → Int → Int → Hp → Option (Sl × Hp)) : Nat → Sl → Nat → Sl → Int → Int → Hp → Option (Sl × Hp)
  | 0, _, _, _, _, _, _ => none
  | k_ + 1, v1, v2, v3, v4, v5, H => if 0 < (v1.len : Int) then
    (ck ((0 : Int) ≤ (w64 ((v1.len : Int) - 1)) ∧ (w64 ((v1.len : Int) - 1)) < (v1.len : Int)) (
    (H.ldI .i64 v1.b ((v1.o + (w64 ((v1.len : Int) - 1) : Int).toNat * 2) + (1 : Int).toNat * 1)).bind fun x3 =>
    (H.ldI .i64 v2 (0 + (1 : Int).toNat * 1)).bind fun x4 =>
    r17_j3 app kt0 (fun v1_ v2_ v3_ v4_ v5_ H_ => r17_l1 app kt0 k_ v1_ v2_ v3_ v4_ v5_ H_) v1 v2 v3 v4 v5 (decide (x3 ≤ x4)) H))
  else
    (r17_j3 app kt0 (fun v1_ v2_ v3_ v4_ v5_ H_ => r17_l1 app kt0 k_ v1_ v2_ v3_ v4_ v5_ H_) v1 v2 v3 v4 v5 false H)
noncomputable def r17_l0 (app : App) : Nat → Sl → Sl → Int → Int → Hp → Option (Sl × Hp)
  | 0, _, _, _, _, _ => none
  | k_ + 1, v1, v2, v3, v4, H => if v4 < v3 then
    (ck ((0 : Int) ≤ v4 ∧ v4 < (v2.len : Int)) (
    (H.ldI .i64 v2.b (v2.o + (v4 : Int).toNat * 2)).bind fun x3 =>
    (H.ldI .i64 v2.b ((v2.o + (v4 : Int).toNat * 2) + 1)).bind fun x4 =>
    ((H.push (.cells [.int .i64 0, .int .i64 0] false)).sts H.n 0 [.int .i64 x3, .int .i64 x4]).bind fun H5 =>
    r17_l1 app (fun v1_ v2_ v3_ v4_ H_ => r17_l0 app k_ v1_ v2_ v3_ v4_ H_) FUEL v1 H.n v2 v3 v4 H5))
  else
    (some (v1, H))
noncomputable def r17 (app : App) (a0 : Sl) (H : Hp) : Option (Sl × Hp) :=
  (r41 a0 H).bind fun p1 =>
  (r40 app p1.1 (.fn 42 [] []) p1.2).bind fun p2 =>
  r17_l0 app FUEL ⟨true, 0, 0, 0, 0, 0⟩ p2.1 (p2.1.len : Int) 0 p2.2
/- 22 (congou/deals.offers).lines -/
def ret22 : Sl → AV := fun r => .sl r
noncomputable def r22_l0 (app : App) : Nat → Sl → Sl → Int → Hp → Option (Sl × Hp)
  | 0, _, _, _, _ => none
  | k_ + 1, v1, v2, v3, H => if v3 < (v1.len : Int) then
    (ck ((0 : Int) ≤ (w64 (v3 - 1)) ∧ (w64 (v3 - 1)) < (v1.len : Int)) (
    (H.ldI .i64 v1.b ((v1.o + (w64 (v3 - 1) : Int).toNat * 2) + (1 : Int).toNat * 1)).bind fun x3 =>
    ck ((0 : Int) ≤ v3 ∧ v3 < (v1.len : Int)) (
    (H.ldI .i64 v1.b ((v1.o + (v3 : Int).toNat * 2) + (1 : Int).toNat * 1)).bind fun x5 =>
    ck ((0 : Int) ≤ v3 ∧ v3 < (v1.len : Int)) (
    (H.ldI .i64 v1.b ((v1.o + (v3 : Int).toNat * 2) + (0 : Int).toNat * 1)).bind fun x7 =>
    ck ((0 : Int) ≤ (w64 (v3 - 1)) ∧ (w64 (v3 - 1)) < (v1.len : Int)) (
    (H.ldI .i64 v1.b ((v1.o + (w64 (v3 - 1) : Int).toNat * 2) + (0 : Int).toNat * 1)).bind fun x9 =>
    ck ((0 : Int) ≤ v3 ∧ v3 < (v1.len : Int)) (
    (H.ldI .i64 v1.b ((v1.o + (v3 : Int).toNat * 2) + (0 : Int).toNat * 1)).bind fun x11 =>
    ck ((0 : Int) ≤ v3 ∧ v3 < (v1.len : Int)) (
    (H.ldI .i64 v1.b ((v1.o + (v3 : Int).toNat * 2) + (1 : Int).toNat * 1)).bind fun x13 =>
    (H.apN 3 v2 [.int .i64 (w64 (x3 - x5)), .int .i64 (w64 (x7 - x9)), .int .i64 (w64 ((w64 ((w64 (x3 - x5)) * x11)) + (w64 ((w64 (x7 - x9)) * x13))))] 1).bind fun x14 =>
    r22_l0 app k_ v1 x14.1 (w64 (v3 + 1)) x14.2)))))))
  else
    (some (v2, H))
noncomputable def r22 (app : App) (a0 : Sl) (H : Hp) : Option (Sl × Hp) :=
  (r17 app a0 H).bind fun p1 =>
  ck ((0 : Int) ≤ 0 ∧ 0 < (p1.1.len : Int)) (
  (p1.2.ldI .i64 p1.1.b ((p1.1.o + (0 : Int).toNat * 2) + (1 : Int).toNat * 1)).bind fun x3 =>
  ck ((0 : Int) ≤ (w64 ((p1.1.len : Int) - 1)) ∧ (w64 ((p1.1.len : Int) - 1)) < (p1.1.len : Int)) (
  (p1.2.ldI .i64 p1.1.b ((p1.1.o + (w64 ((p1.1.len : Int) - 1) : Int).toNat * 2) + (0 : Int).toNat * 1)).bind fun x5 =>
  lt (p1.2.push (.cells [.int .i64 0, .int .i64 1, .int .i64 x3, .int .i64 1, .int .i64 0, .int .i64 x5] false)) fun H6 =>
  r22_l0 app FUEL p1.1 ⟨false, p1.2.n, 0, 2, 2, 0⟩ 1 H6))
/- 38 congou/deals.isNumber -/
def ret38 : Bool → AV := fun r => .bool r
noncomputable def r38 (a0 : Int) (H : Hp) : Option (Bool × Hp) :=
  if 0 ≤ a0 then
    (some ((decide (a0 ≤ 30)), H))
  else
    (some (false, H))
/- 55 slices.Index[congou/deals.offers,[2]int] -/
def ret55 : Int → AV := fun r => .int .i64 r
noncomputable def r55_l0 : Nat → Sl → Nat → Int → Int → Hp → Option (Int × Hp)
  | 0, _, _, _, _, _ => none
  | k_ + 1, v1, v2, v3, v4, H => if v4 < v3 then
    ((H.ldI .i64 v2 0).bind fun x2 =>
    (H.ldI .i64 v2 (0 + 1)).bind fun x3 =>
    ck ((0 : Int) ≤ v4 ∧ v4 < (v1.len : Int)) (
    (H.ldI .i64 v1.b (v1.o + (v4 : Int).toNat * 2)).bind fun x5 =>
    (H.ldI .i64 v1.b ((v1.o + (v4 : Int).toNat * 2) + 1)).bind fun x6 =>
    if (AV.keqs [.int .i64 x2, .int .i64 x3] [.int .i64 x5, .int .i64 x6]) = true then
      (some (v4, H))
    else
      (r55_l0 k_ v1 v2 v3 (w64 (v4 + 1)) H)))
  else
    (some ((-1), H))
noncomputable def r55 (a0 : Sl) (a1_0 : Int) (a1_1 : Int) (H : Hp) : Option (Int × Hp) :=
  lt (H.push (.cells [.int .i64 a1_0, .int .i64 a1_1] false)) fun H1 =>
  r55_l0 FUEL a0 H.n (a0.len : Int) 0 H1
/- 50 slices.Contains[congou/deals.offers,[2]int] -/
def ret50 : Bool → AV := fun r => .bool r
noncomputable def r50 (a0 : Sl) (a1_0 : Int) (a1_1 : Int) (H : Hp) : Option (Bool × Hp) :=
  lt (H.push (.cells [.int .i64 a1_0, .int .i64 a1_1] false)) fun H1 =>
  (H1.ldI .i64 H.n 0).bind fun x2 =>
  (H1.ldI .i64 H.n (0 + 1)).bind fun x3 =>
  (r55 a0 x2 x3 H1).bind fun p4 =>
  some ((decide (0 ≤ p4.1)), p4.2)
end Go.Lt.P5
