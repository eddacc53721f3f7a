/- PRINTED BY A PROGRAM OF OURS: what each function that 'TopGap' reaches computes on the abstract heap, and that the translated code does just that. Nothing is asked of the input. -/
import Derived.Test.YtopildlfbhfghaaGreatDoorG4R0
set_option linter.unusedVariables false
set_option linter.unusedSimpArgs false
set_option maxRecDepth 100000
set_option maxHeartbeats 4000000
namespace Go.Lt.P10
open Go Go.Lt Go.Proofs
/- 330 math/bits.Len32 -/
def ret330 : Int → AV := fun r => .int .i64 r
noncomputable def r330_j0 (v1 v2 : Int) (H : Hp) : Option (Int × Hp) := ck ((0 : Int) ≤ (IntKind.wrap .u8 (v1)) ∧ (IntKind.wrap .u8 (v1)) < ((strC Tryz.f330 [1, 1, 1, 0] 3 0).size : Int)) (some (w64 (v2 + (w64 (bt (strC Tryz.f330 [1, 1, 1, 0] 3 0) (IntKind.wrap .u8 (v1))))), H))
noncomputable def r330_j1 (v1 v2 : Int) (H : Hp) : Option (Int × Hp) := if 256 ≤ v1 then (r330_j0 (shrOf .u32 v1 8) (w64 (v2 + 8)) H)
  else (r330_j0 v1 v2 H)
noncomputable def r330 (a0 : Int) (H : Hp) : Option (Int × Hp) := if 65536 ≤ a0 then (r330_j1 (shrOf .u32 a0 16) 16 H)
  else (r330_j1 a0 0 H)
/- 296 math/bits.Len -/
def ret296 : Int → AV := fun r => .int .i64 r
noncomputable def r296 (a0 : Int) (H : Hp) : Option (Int × Hp) := (r239 a0 H).bind fun p1 => some (p1.1, p1.2)
/- 350 slices.nextPowerOfTwo -/
def ret350 : Int → AV := fun r => .int .u64 r
noncomputable def r350 (a0 : Int) (H : Hp) : Option (Int × Hp) := (r296 (IntKind.wrap .u64 (a0)) H).bind fun p1 => ck (¬ p1.1 < 0) (some (shlOf .u64 1 p1.1, p1.2))
/- 351 (*slices.xorshift).Next -/
def ret351 : Int → AV := fun r => .int .u64 r
noncomputable def r351 (a0b a0o : Nat) (H : Hp) : Option (Int × Hp) := (H.ldI .u64 a0b a0o).bind fun x1 => (H.ldI .u64 a0b a0o).bind fun x2 => (H.st a0b a0o (.int .u64 (bitsOf .xor .u64 x1 (shlOf .u64 x2 13)))).bind fun H3 => (H3.ldI .u64 a0b a0o).bind fun x4 => (H3.ldI .u64 a0b a0o).bind fun x5 => (H3.st a0b a0o (.int .u64 (bitsOf .xor .u64 x4 (shrOf .u64 x5 7)))).bind fun H6 => (H6.ldI .u64 a0b a0o).bind fun x7 => (H6.ldI .u64 a0b a0o).bind fun x8 => (H6.st a0b a0o (.int .u64 (bitsOf .xor .u64 x7 (shlOf .u64 x8 17)))).bind fun H9 => (H9.ldI .u64 a0b a0o).bind fun x10 => some (x10, H9)
/- 324 slices.breakPatternsCmpFunc[int] -/
def ret324 : Unit → AV := fun _ => .tup []
noncomputable def r324_j1 (kt0 : Sl → Int → Int → Nat → Int → Int → Hp → Option (Unit × Hp)) (v1 : Sl) (v2 v3 : Int) (v4 : Nat) (v5 v6 v7 : Int) (H : Hp) : Option (Unit × Hp) := ck ((0 : Int) ≤ (w64 (v2 + v7)) ∧ (w64 (v2 + v7)) < (v1.len : Int)) ((H.ldI .i64 v1.b (v1.o + (w64 (v2 + v7) : Int).toNat * 1)).bind fun x2 => ck ((0 : Int) ≤ v6 ∧ v6 < (v1.len : Int)) ((H.ldI .i64 v1.b (v1.o + (v6 : Int).toNat * 1)).bind fun x4 => ck ((0 : Int) ≤ v6 ∧ v6 < (v1.len : Int)) ((H.st v1.b (v1.o + (v6 : Int).toNat * 1) (.int .i64 x2)).bind fun H6 => ck ((0 : Int) ≤ (w64 (v2 + v7)) ∧ (w64 (v2 + v7)) < (v1.len : Int)) ((H6.st v1.b (v1.o + (w64 (v2 + v7) : Int).toNat * 1) (.int .i64 x4)).bind fun H8 => kt0 v1 v2 v3 v4 v5 (w64 (v6 + 1)) H8))))
noncomputable def r324_l0 : Nat → Sl → Int → Int → Nat → Int → Int → Hp → Option (Unit × Hp)
  | 0, _, _, _, _, _, _, _ => none
  | k_ + 1, v1, v2, v3, v4, v5, v6, H => if v6 ≤ (w64 ((w64 (v2 + (w64 ((w64 (Int.tdiv v3 4)) * 2)))) + 1)) then ((r351 v4 0 H).bind fun p2 => if v3 ≤ (w64 (bitsOf .and .u64 p2.1 (IntKind.wrap .u64 (v5 - 1)))) then (r324_j1 (r324_l0 k_) v1 v2 v3 v4 v5 v6 (w64 ((w64 (bitsOf .and .u64 p2.1 (IntKind.wrap .u64 (v5 - 1)))) - v3)) p2.2)
    else (r324_j1 (r324_l0 k_) v1 v2 v3 v4 v5 v6 (w64 (bitsOf .and .u64 p2.1 (IntKind.wrap .u64 (v5 - 1)))) p2.2))
  else (some ((), H))
noncomputable def r324 (a0 : Sl) (a1 a2 : Int) (a3 : AV) (H : Hp) : Option (Unit × Hp) := if 8 ≤ (w64 (a2 - a1)) then (((H.push (.cells [.int .u64 0] false)).st H.n 0 (.int .u64 (IntKind.wrap .u64 (w64 (a2 - a1))))).bind fun H2 => (r350 (w64 (a2 - a1)) H2).bind fun p3 => r324_l0 FUEL a0 a1 (w64 (a2 - a1)) H.n p3.1 (w64 ((w64 (a1 + (w64 ((w64 (Int.tdiv (w64 (a2 - a1)) 4)) * 2)))) - 1)) p3.2)
  else (some ((), H))
/- 367 slices.order2CmpFunc[int] -/
def ret367 : Int × Int → AV := fun r => .tup [.int .i64 r.1, .int .i64 r.2]
noncomputable def r367 (app : App) (a0 : Sl) (a1 a2 : Int) (a3b a3o : Nat) (a4 : AV) (H : Hp) : Option ((Int × Int) × Hp) := ck ((0 : Int) ≤ a2 ∧ a2 < (a0.len : Int)) ((H.ldI .i64 a0.b (a0.o + (a2 : Int).toNat * 1)).bind fun x2 => ck ((0 : Int) ≤ a1 ∧ a1 < (a0.len : Int)) ((H.ldI .i64 a0.b (a0.o + (a1 : Int).toNat * 1)).bind fun x4 => (callv app a4 [.int .i64 x2, .int .i64 x4] H).bind fun p5 => (p5.1.asI .i64).bind fun x6 => if x6 < 0 then ((p5.2.ldI .i64 a3b a3o).bind fun x8 => (p5.2.st a3b a3o (.int .i64 (w64 (x8 + 1)))).bind fun H9 => some ((a2, a1), H9))
  else (some ((a1, a2), p5.2))))
/- 353 slices.medianCmpFunc[int] -/
def ret353 : Int → AV := fun r => .int .i64 r
noncomputable def r353 (app : App) (a0 : Sl) (a1 a2 a3 : Int) (a4b a4o : Nat) (a5 : AV) (H : Hp) : Option (Int × Hp) := (r367 app a0 a1 a2 a4b a4o a5 H).bind fun p1 => (r367 app a0 p1.1.2 a3 a4b a4o a5 p1.2).bind fun p2 => (r367 app a0 p1.1.1 p2.1.1 a4b a4o a5 p2.2).bind fun p3 => some (p3.1.2, p3.2)
/- 352 slices.medianAdjacentCmpFunc[int] -/
def ret352 : Int → AV := fun r => .int .i64 r
noncomputable def r352 (app : App) (a0 : Sl) (a1 : Int) (a2b a2o : Nat) (a3 : AV) (H : Hp) : Option (Int × Hp) := (r353 app a0 (w64 (a1 - 1)) a1 (w64 (a1 + 1)) a2b a2o a3 H).bind fun p1 => some (p1.1, p1.2)
/- 325 slices.choosePivotCmpFunc[int] -/
def ret325 : Int × Int → AV := fun r => .tup [.int .i64 r.1, .int .i64 r.2]
noncomputable def r325_j1 (app : App) (v1 : Nat) (v2 : Int) (H : Hp) : Option ((Int × Int) × Hp) := (H.ldI .i64 v1 0).bind fun x1 => if x1 = 0 then (some ((v2, 1), H))
  else (if x1 = 12 then (some ((v2, 2), H))
    else (some ((v2, 0), H)))
noncomputable def r325_j0 (app : App) (v1 : Sl) (v2 : AV) (v3 : Nat) (v4 v5 v6 : Int) (H : Hp) : Option ((Int × Int) × Hp) := (r353 app v1 v4 v5 v6 v3 0 v2 H).bind fun p1 => r325_j1 app v3 p1.1 p1.2
noncomputable def r325 (app : App) (a0 : Sl) (a1 a2 : Int) (a3 : AV) (H : Hp) : Option ((Int × Int) × Hp) := lt (H.push (.cells [.int .i64 0] false)) fun H1 => if 8 ≤ (w64 (a2 - a1)) then (if 50 ≤ (w64 (a2 - a1)) then ((r352 app a0 (w64 (a1 + (w64 ((w64 (Int.tdiv (w64 (a2 - a1)) 4)) * 1)))) H.n 0 a3 H1).bind fun p4 => (r352 app a0 (w64 (a1 + (w64 ((w64 (Int.tdiv (w64 (a2 - a1)) 4)) * 2)))) H.n 0 a3 p4.2).bind fun p5 => (r352 app a0 (w64 (a1 + (w64 ((w64 (Int.tdiv (w64 (a2 - a1)) 4)) * 3)))) H.n 0 a3 p5.2).bind fun p6 => r325_j0 app a0 a3 H.n p4.1 p5.1 p6.1 p6.2)
    else (r325_j0 app a0 a3 H.n (w64 (a1 + (w64 ((w64 (Int.tdiv (w64 (a2 - a1)) 4)) * 1)))) (w64 (a1 + (w64 ((w64 (Int.tdiv (w64 (a2 - a1)) 4)) * 2)))) (w64 (a1 + (w64 ((w64 (Int.tdiv (w64 (a2 - a1)) 4)) * 3)))) H1))
  else (r325_j1 app H.n (w64 (a1 + (w64 ((w64 (Int.tdiv (w64 (a2 - a1)) 4)) * 2)))) H1)
/- 326 slices.reverseRangeCmpFunc[int] -/
def ret326 : Unit → AV := fun _ => .tup []
noncomputable def r326_l0 : Nat → Sl → Int → Int → Hp → Option (Unit × Hp)
  | 0, _, _, _, _ => none
  | k_ + 1, v1, v2, v3, H => if v2 < v3 then (ck ((0 : Int) ≤ v3 ∧ v3 < (v1.len : Int)) ((H.ldI .i64 v1.b (v1.o + (v3 : Int).toNat * 1)).bind fun x3 => ck ((0 : Int) ≤ v2 ∧ v2 < (v1.len : Int)) ((H.ldI .i64 v1.b (v1.o + (v2 : Int).toNat * 1)).bind fun x5 => ck ((0 : Int) ≤ v2 ∧ v2 < (v1.len : Int)) ((H.st v1.b (v1.o + (v2 : Int).toNat * 1) (.int .i64 x3)).bind fun H7 => ck ((0 : Int) ≤ v3 ∧ v3 < (v1.len : Int)) ((H7.st v1.b (v1.o + (v3 : Int).toNat * 1) (.int .i64 x5)).bind fun H9 => r326_l0 k_ v1 (w64 (v2 + 1)) (w64 (v3 - 1)) H9)))))
  else (some ((), H))
noncomputable def r326 (a0 : Sl) (a1 a2 : Int) (a3 : AV) (H : Hp) : Option (Unit × Hp) := r326_l0 FUEL a0 a1 (w64 (a2 - 1)) H
/- 327 slices.partialInsertionSortCmpFunc[int] -/
def ret327 : Bool → AV := fun r => .bool r
noncomputable def r327_l3 (app : App) (kt0 : Sl → Int → Int → AV → Int → Int → Hp → Option (Bool × Hp)) : Nat → Sl → Int → Int → AV → Int → Int → Int → Hp → Option (Bool × Hp)
  | 0, _, _, _, _, _, _, _, _ => none
  | k_ + 1, v1, v2, v3, v4, v5, v6, v7, H => if v7 < v3 then (ck ((0 : Int) ≤ v7 ∧ v7 < (v1.len : Int)) ((H.ldI .i64 v1.b (v1.o + (v7 : Int).toNat * 1)).bind fun x3 => ck ((0 : Int) ≤ (w64 (v7 - 1)) ∧ (w64 (v7 - 1)) < (v1.len : Int)) ((H.ldI .i64 v1.b (v1.o + (w64 (v7 - 1) : Int).toNat * 1)).bind fun x5 => (callv app v4 [.int .i64 x3, .int .i64 x5] H).bind fun p6 => (p6.1.asI .i64).bind fun x7 => if x7 < 0 then (ck ((0 : Int) ≤ (w64 (v7 - 1)) ∧ (w64 (v7 - 1)) < (v1.len : Int)) ((p6.2.ldI .i64 v1.b (v1.o + (w64 (v7 - 1) : Int).toNat * 1)).bind fun x10 => ck ((0 : Int) ≤ v7 ∧ v7 < (v1.len : Int)) ((p6.2.ldI .i64 v1.b (v1.o + (v7 : Int).toNat * 1)).bind fun x12 => ck ((0 : Int) ≤ v7 ∧ v7 < (v1.len : Int)) ((p6.2.st v1.b (v1.o + (v7 : Int).toNat * 1) (.int .i64 x10)).bind fun H14 => ck ((0 : Int) ≤ (w64 (v7 - 1)) ∧ (w64 (v7 - 1)) < (v1.len : Int)) ((H14.st v1.b (v1.o + (w64 (v7 - 1) : Int).toNat * 1) (.int .i64 x12)).bind fun H16 => r327_l3 app kt0 k_ v1 v2 v3 v4 v5 v6 (w64 (v7 + 1)) H16)))))
    else (kt0 v1 v2 v3 v4 v5 (w64 (v6 + 1)) p6.2))))
  else (kt0 v1 v2 v3 v4 v5 (w64 (v6 + 1)) H)
noncomputable def r327_j5 (app : App) (kt0 : Sl → Int → Int → AV → Int → Int → Hp → Option (Bool × Hp)) (v1 : Sl) (v2 v3 : Int) (v4 : AV) (v5 v6 : Int) (H : Hp) : Option (Bool × Hp) := if 2 ≤ (w64 (v3 - v5)) then (r327_l3 app kt0 FUEL v1 v2 v3 v4 v5 v6 (w64 (v5 + 1)) H)
  else (kt0 v1 v2 v3 v4 v5 (w64 (v6 + 1)) H)
noncomputable def r327_l2 (app : App) (kt0 : Sl → Int → Int → AV → Int → Int → Hp → Option (Bool × Hp)) : Nat → Sl → Int → Int → AV → Int → Int → Int → Hp → Option (Bool × Hp)
  | 0, _, _, _, _, _, _, _, _ => none
  | k_ + 1, v1, v2, v3, v4, v5, v6, v7, H => if 1 ≤ v7 then (ck ((0 : Int) ≤ v7 ∧ v7 < (v1.len : Int)) ((H.ldI .i64 v1.b (v1.o + (v7 : Int).toNat * 1)).bind fun x3 => ck ((0 : Int) ≤ (w64 (v7 - 1)) ∧ (w64 (v7 - 1)) < (v1.len : Int)) ((H.ldI .i64 v1.b (v1.o + (w64 (v7 - 1) : Int).toNat * 1)).bind fun x5 => (callv app v4 [.int .i64 x3, .int .i64 x5] H).bind fun p6 => (p6.1.asI .i64).bind fun x7 => if x7 < 0 then (ck ((0 : Int) ≤ (w64 (v7 - 1)) ∧ (w64 (v7 - 1)) < (v1.len : Int)) ((p6.2.ldI .i64 v1.b (v1.o + (w64 (v7 - 1) : Int).toNat * 1)).bind fun x10 => ck ((0 : Int) ≤ v7 ∧ v7 < (v1.len : Int)) ((p6.2.ldI .i64 v1.b (v1.o + (v7 : Int).toNat * 1)).bind fun x12 => ck ((0 : Int) ≤ v7 ∧ v7 < (v1.len : Int)) ((p6.2.st v1.b (v1.o + (v7 : Int).toNat * 1) (.int .i64 x10)).bind fun H14 => ck ((0 : Int) ≤ (w64 (v7 - 1)) ∧ (w64 (v7 - 1)) < (v1.len : Int)) ((H14.st v1.b (v1.o + (w64 (v7 - 1) : Int).toNat * 1) (.int .i64 x12)).bind fun H16 => r327_l2 app kt0 k_ v1 v2 v3 v4 v5 v6 (w64 (v7 - 1)) H16)))))
    else (r327_j5 app kt0 v1 v2 v3 v4 v5 v6 p6.2))))
  else (r327_j5 app kt0 v1 v2 v3 v4 v5 v6 H)
noncomputable def r327_j4 (app : App) (kt0 : Sl → Int → Int → AV → Int → Int → Hp → Option (Bool × Hp)) (kt1 : Sl → Int → Int → AV → Int → Int → Hp → Option (Bool × Hp)) (v1 : Sl) (v2 v3 : Int) (v4 : AV) (v5 v6 : Int) (v7 : Bool) (H : Hp) : Option (Bool × Hp) := if v7 = true then (kt1 v1 v2 v3 v4 (w64 (v5 + 1)) v6 H)
  else (if v5 = v3 then (some (true, H))
    else (if (w64 (v3 - v2)) < 50 then (some (false, H))
      else (ck ((0 : Int) ≤ (w64 (v5 - 1)) ∧ (w64 (v5 - 1)) < (v1.len : Int)) ((H.ldI .i64 v1.b (v1.o + (w64 (v5 - 1) : Int).toNat * 1)).bind fun x5 => ck ((0 : Int) ≤ v5 ∧ v5 < (v1.len : Int)) ((H.ldI .i64 v1.b (v1.o + (v5 : Int).toNat * 1)).bind fun x7 => ck ((0 : Int) ≤ v5 ∧ v5 < (v1.len : Int)) ((H.st v1.b (v1.o + (v5 : Int).toNat * 1) (.int .i64 x5)).bind fun H9 => ck ((0 : Int) ≤ (w64 (v5 - 1)) ∧ (w64 (v5 - 1)) < (v1.len : Int)) ((H9.st v1.b (v1.o + (w64 (v5 - 1) : Int).toNat * 1) (.int .i64 x7)).bind fun H11 => if 2 ≤ (w64 (v5 - v2)) then (r327_l2 app kt0 FUEL v1 v2 v3 v4 v5 v6 (w64 (v5 - 1)) H11)
        else (r327_j5 app kt0 v1 v2 v3 v4 v5 v6 H11))))))))
noncomputable def r327_l1 (app : App) (kt0 : Sl → Int → Int → AV → Int → Int → Hp → Option (Bool × Hp)) : Nat → Sl → Int → Int → AV → Int → Int → Hp → Option (Bool × Hp)
  | 0, _, _, _, _, _, _, _ => none
  | k_ + 1, v1, v2, v3, v4, v5, v6, H => if v5 < v3 then (ck ((0 : Int) ≤ v5 ∧ v5 < (v1.len : Int)) ((H.ldI .i64 v1.b (v1.o + (v5 : Int).toNat * 1)).bind fun x3 => ck ((0 : Int) ≤ (w64 (v5 - 1)) ∧ (w64 (v5 - 1)) < (v1.len : Int)) ((H.ldI .i64 v1.b (v1.o + (w64 (v5 - 1) : Int).toNat * 1)).bind fun x5 => (callv app v4 [.int .i64 x3, .int .i64 x5] H).bind fun p6 => (p6.1.asI .i64).bind fun x7 => r327_j4 app kt0 (r327_l1 app kt0 k_) v1 v2 v3 v4 v5 v6 (!(decide (x7 < 0))) p6.2)))
  else (r327_j4 app kt0 (r327_l1 app kt0 k_) v1 v2 v3 v4 v5 v6 false H)
noncomputable def r327_l0 (app : App) : Nat → Sl → Int → Int → AV → Int → Int → Hp → Option (Bool × Hp)
  | 0, _, _, _, _, _, _, _ => none
  | k_ + 1, v1, v2, v3, v4, v5, v6, H => if v6 < 5 then (r327_l1 app (r327_l0 app k_) FUEL v1 v2 v3 v4 v5 v6 H)
  else (some (false, H))
noncomputable def r327 (app : App) (a0 : Sl) (a1 a2 : Int) (a3 : AV) (H : Hp) : Option (Bool × Hp) := r327_l0 app FUEL a0 a1 a2 a3 (w64 (a1 + 1)) 0 H
/- 328 slices.partitionEqualCmpFunc[int] -/
def ret328 : Int → AV := fun r => .int .i64 r
noncomputable def r328_j4 (app : App) (kt0 : Sl → Int → AV → Int → Int → Hp → Option (Int × Hp)) (kt2 : Sl → Int → AV → Int → Int → Hp → Option (Int × Hp)) (v1 : Sl) (v2 : Int) (v3 : AV) (v4 v5 : Int) (v6 : Bool) (H : Hp) : Option (Int × Hp) := if v6 = true then (kt2 v1 v2 v3 v4 (w64 (v5 - 1)) H)
  else (if v5 < v4 then (some (v4, H))
    else (ck ((0 : Int) ≤ v5 ∧ v5 < (v1.len : Int)) ((H.ldI .i64 v1.b (v1.o + (v5 : Int).toNat * 1)).bind fun x4 => ck ((0 : Int) ≤ v4 ∧ v4 < (v1.len : Int)) ((H.ldI .i64 v1.b (v1.o + (v4 : Int).toNat * 1)).bind fun x6 => ck ((0 : Int) ≤ v4 ∧ v4 < (v1.len : Int)) ((H.st v1.b (v1.o + (v4 : Int).toNat * 1) (.int .i64 x4)).bind fun H8 => ck ((0 : Int) ≤ v5 ∧ v5 < (v1.len : Int)) ((H8.st v1.b (v1.o + (v5 : Int).toNat * 1) (.int .i64 x6)).bind fun H10 => kt0 v1 v2 v3 (w64 (v4 + 1)) (w64 (v5 - 1)) H10))))))
noncomputable def r328_l2 (app : App) (kt0 : Sl → Int → AV → Int → Int → Hp → Option (Int × Hp)) : Nat → Sl → Int → AV → Int → Int → Hp → Option (Int × Hp)
  | 0, _, _, _, _, _, _ => none
  | k_ + 1, v1, v2, v3, v4, v5, H => if v4 ≤ v5 then (ck ((0 : Int) ≤ v2 ∧ v2 < (v1.len : Int)) ((H.ldI .i64 v1.b (v1.o + (v2 : Int).toNat * 1)).bind fun x3 => ck ((0 : Int) ≤ v5 ∧ v5 < (v1.len : Int)) ((H.ldI .i64 v1.b (v1.o + (v5 : Int).toNat * 1)).bind fun x5 => (callv app v3 [.int .i64 x3, .int .i64 x5] H).bind fun p6 => (p6.1.asI .i64).bind fun x7 => r328_j4 app kt0 (r328_l2 app kt0 k_) v1 v2 v3 v4 v5 (decide (x7 < 0)) p6.2)))
  else (r328_j4 app kt0 (r328_l2 app kt0 k_) v1 v2 v3 v4 v5 false H)
noncomputable def r328_j3 (app : App) (kt0 : Sl → Int → AV → Int → Int → Hp → Option (Int × Hp)) (kt1 : Sl → Int → AV → Int → Int → Hp → Option (Int × Hp)) (v1 : Sl) (v2 : Int) (v3 : AV) (v4 v5 : Int) (v6 : Bool) (H : Hp) : Option (Int × Hp) := if v6 = true then (kt1 v1 v2 v3 (w64 (v4 + 1)) v5 H)
  else (r328_l2 app kt0 FUEL v1 v2 v3 v4 v5 H)
noncomputable def r328_l1 (app : App) (kt0 : Sl → Int → AV → Int → Int → Hp → Option (Int × Hp)) : Nat → Sl → Int → AV → Int → Int → Hp → Option (Int × Hp)
  | 0, _, _, _, _, _, _ => none
  | k_ + 1, v1, v2, v3, v4, v5, H => if v4 ≤ v5 then (ck ((0 : Int) ≤ v2 ∧ v2 < (v1.len : Int)) ((H.ldI .i64 v1.b (v1.o + (v2 : Int).toNat * 1)).bind fun x3 => ck ((0 : Int) ≤ v4 ∧ v4 < (v1.len : Int)) ((H.ldI .i64 v1.b (v1.o + (v4 : Int).toNat * 1)).bind fun x5 => (callv app v3 [.int .i64 x3, .int .i64 x5] H).bind fun p6 => (p6.1.asI .i64).bind fun x7 => r328_j3 app kt0 (r328_l1 app kt0 k_) v1 v2 v3 v4 v5 (!(decide (x7 < 0))) p6.2)))
  else (r328_j3 app kt0 (r328_l1 app kt0 k_) v1 v2 v3 v4 v5 false H)
noncomputable def r328_l0 (app : App) : Nat → Sl → Int → AV → Int → Int → Hp → Option (Int × Hp)
  | 0, _, _, _, _, _, _ => none
  | k_ + 1, v1, v2, v3, v4, v5, H => r328_l1 app (r328_l0 app k_) FUEL v1 v2 v3 v4 v5 H
noncomputable def r328 (app : App) (a0 : Sl) (a1 a2 a3 : Int) (a4 : AV) (H : Hp) : Option (Int × Hp) := ck ((0 : Int) ≤ a3 ∧ a3 < (a0.len : Int)) ((H.ldI .i64 a0.b (a0.o + (a3 : Int).toNat * 1)).bind fun x2 => ck ((0 : Int) ≤ a1 ∧ a1 < (a0.len : Int)) ((H.ldI .i64 a0.b (a0.o + (a1 : Int).toNat * 1)).bind fun x4 => ck ((0 : Int) ≤ a1 ∧ a1 < (a0.len : Int)) ((H.st a0.b (a0.o + (a1 : Int).toNat * 1) (.int .i64 x2)).bind fun H6 => ck ((0 : Int) ≤ a3 ∧ a3 < (a0.len : Int)) ((H6.st a0.b (a0.o + (a3 : Int).toNat * 1) (.int .i64 x4)).bind fun H8 => r328_l0 app FUEL a0 a1 a4 (w64 (a1 + 1)) (w64 (a2 - 1)) H8))))
/- 329 slices.partitionCmpFunc[int] -/
def ret329 : Int × Bool → AV := fun r => .tup [.int .i64 r.1, .bool r.2]
noncomputable def r329_j8 (app : App) (kt3 : Sl → Int → AV → Int → Int → Hp → Option ((Int × Bool) × Hp)) (kt6 : Sl → Int → AV → Int → Int → Hp → Option ((Int × Bool) × Hp)) (v1 : Sl) (v2 : Int) (v3 : AV) (v4 v5 : Int) (v6 : Bool) (H : Hp) : Option ((Int × Bool) × Hp) := if v6 = true then (kt6 v1 v2 v3 v4 (w64 (v5 - 1)) H)
  else (if v5 < v4 then (ck ((0 : Int) ≤ v2 ∧ v2 < (v1.len : Int)) ((H.ldI .i64 v1.b (v1.o + (v2 : Int).toNat * 1)).bind fun x4 => ck ((0 : Int) ≤ v5 ∧ v5 < (v1.len : Int)) ((H.ldI .i64 v1.b (v1.o + (v5 : Int).toNat * 1)).bind fun x6 => ck ((0 : Int) ≤ v5 ∧ v5 < (v1.len : Int)) ((H.st v1.b (v1.o + (v5 : Int).toNat * 1) (.int .i64 x4)).bind fun H8 => ck ((0 : Int) ≤ v2 ∧ v2 < (v1.len : Int)) ((H8.st v1.b (v1.o + (v2 : Int).toNat * 1) (.int .i64 x6)).bind fun H10 => some ((v5, false), H10))))))
    else (ck ((0 : Int) ≤ v5 ∧ v5 < (v1.len : Int)) ((H.ldI .i64 v1.b (v1.o + (v5 : Int).toNat * 1)).bind fun x12 => ck ((0 : Int) ≤ v4 ∧ v4 < (v1.len : Int)) ((H.ldI .i64 v1.b (v1.o + (v4 : Int).toNat * 1)).bind fun x14 => ck ((0 : Int) ≤ v4 ∧ v4 < (v1.len : Int)) ((H.st v1.b (v1.o + (v4 : Int).toNat * 1) (.int .i64 x12)).bind fun H16 => ck ((0 : Int) ≤ v5 ∧ v5 < (v1.len : Int)) ((H16.st v1.b (v1.o + (v5 : Int).toNat * 1) (.int .i64 x14)).bind fun H18 => kt3 v1 v2 v3 (w64 (v4 + 1)) (w64 (v5 - 1)) H18))))))
noncomputable def r329_l6 (app : App) (kt3 : Sl → Int → AV → Int → Int → Hp → Option ((Int × Bool) × Hp)) : Nat → Sl → Int → AV → Int → Int → Hp → Option ((Int × Bool) × Hp)
  | 0, _, _, _, _, _, _ => none
  | k_ + 1, v1, v2, v3, v4, v5, H => if v4 ≤ v5 then (ck ((0 : Int) ≤ v5 ∧ v5 < (v1.len : Int)) ((H.ldI .i64 v1.b (v1.o + (v5 : Int).toNat * 1)).bind fun x3 => ck ((0 : Int) ≤ v2 ∧ v2 < (v1.len : Int)) ((H.ldI .i64 v1.b (v1.o + (v2 : Int).toNat * 1)).bind fun x5 => (callv app v3 [.int .i64 x3, .int .i64 x5] H).bind fun p6 => (p6.1.asI .i64).bind fun x7 => r329_j8 app kt3 (r329_l6 app kt3 k_) v1 v2 v3 v4 v5 (!(decide (x7 < 0))) p6.2)))
  else (r329_j8 app kt3 (r329_l6 app kt3 k_) v1 v2 v3 v4 v5 false H)
noncomputable def r329_j7 (app : App) (kt3 : Sl → Int → AV → Int → Int → Hp → Option ((Int × Bool) × Hp)) (kt5 : Sl → Int → AV → Int → Int → Hp → Option ((Int × Bool) × Hp)) (v1 : Sl) (v2 : Int) (v3 : AV) (v4 v5 : Int) (v6 : Bool) (H : Hp) : Option ((Int × Bool) × Hp) := if v6 = true then (kt5 v1 v2 v3 (w64 (v4 + 1)) v5 H)
  else (r329_l6 app kt3 FUEL v1 v2 v3 v4 v5 H)
noncomputable def r329_l5 (app : App) (kt3 : Sl → Int → AV → Int → Int → Hp → Option ((Int × Bool) × Hp)) : Nat → Sl → Int → AV → Int → Int → Hp → Option ((Int × Bool) × Hp)
  | 0, _, _, _, _, _, _ => none
  | k_ + 1, v1, v2, v3, v4, v5, H => if v4 ≤ v5 then (ck ((0 : Int) ≤ v4 ∧ v4 < (v1.len : Int)) ((H.ldI .i64 v1.b (v1.o + (v4 : Int).toNat * 1)).bind fun x3 => ck ((0 : Int) ≤ v2 ∧ v2 < (v1.len : Int)) ((H.ldI .i64 v1.b (v1.o + (v2 : Int).toNat * 1)).bind fun x5 => (callv app v3 [.int .i64 x3, .int .i64 x5] H).bind fun p6 => (p6.1.asI .i64).bind fun x7 => r329_j7 app kt3 (r329_l5 app kt3 k_) v1 v2 v3 v4 v5 (decide (x7 < 0)) p6.2)))
  else (r329_j7 app kt3 (r329_l5 app kt3 k_) v1 v2 v3 v4 v5 false H)
noncomputable def r329_l3 (app : App) : Nat → Sl → Int → AV → Int → Int → Hp → Option ((Int × Bool) × Hp)
  | 0, _, _, _, _, _, _ => none
  | k_ + 1, v1, v2, v3, v4, v5, H => r329_l5 app (r329_l3 app k_) FUEL v1 v2 v3 v4 v5 H
noncomputable def r329_j4 (app : App) (kt1 : Sl → Int → AV → Int → Int → Hp → Option ((Int × Bool) × Hp)) (v1 : Sl) (v2 : Int) (v3 : AV) (v4 v5 : Int) (v6 : Bool) (H : Hp) : Option ((Int × Bool) × Hp) := if v6 = true then (kt1 v1 v2 v3 v4 (w64 (v5 - 1)) H)
  else (if v5 < v4 then (ck ((0 : Int) ≤ v2 ∧ v2 < (v1.len : Int)) ((H.ldI .i64 v1.b (v1.o + (v2 : Int).toNat * 1)).bind fun x4 => ck ((0 : Int) ≤ v5 ∧ v5 < (v1.len : Int)) ((H.ldI .i64 v1.b (v1.o + (v5 : Int).toNat * 1)).bind fun x6 => ck ((0 : Int) ≤ v5 ∧ v5 < (v1.len : Int)) ((H.st v1.b (v1.o + (v5 : Int).toNat * 1) (.int .i64 x4)).bind fun H8 => ck ((0 : Int) ≤ v2 ∧ v2 < (v1.len : Int)) ((H8.st v1.b (v1.o + (v2 : Int).toNat * 1) (.int .i64 x6)).bind fun H10 => some ((v5, true), H10))))))
    else (ck ((0 : Int) ≤ v5 ∧ v5 < (v1.len : Int)) ((H.ldI .i64 v1.b (v1.o + (v5 : Int).toNat * 1)).bind fun x12 => ck ((0 : Int) ≤ v4 ∧ v4 < (v1.len : Int)) ((H.ldI .i64 v1.b (v1.o + (v4 : Int).toNat * 1)).bind fun x14 => ck ((0 : Int) ≤ v4 ∧ v4 < (v1.len : Int)) ((H.st v1.b (v1.o + (v4 : Int).toNat * 1) (.int .i64 x12)).bind fun H16 => ck ((0 : Int) ≤ v5 ∧ v5 < (v1.len : Int)) ((H16.st v1.b (v1.o + (v5 : Int).toNat * 1) (.int .i64 x14)).bind fun H18 => r329_l3 app FUEL v1 v2 v3 (w64 (v4 + 1)) (w64 (v5 - 1)) H18))))))
noncomputable def r329_l1 (app : App) : Nat → Sl → Int → AV → Int → Int → Hp → Option ((Int × Bool) × Hp)
  | 0, _, _, _, _, _, _ => none
  | k_ + 1, v1, v2, v3, v4, v5, H => if v4 ≤ v5 then (ck ((0 : Int) ≤ v5 ∧ v5 < (v1.len : Int)) ((H.ldI .i64 v1.b (v1.o + (v5 : Int).toNat * 1)).bind fun x3 => ck ((0 : Int) ≤ v2 ∧ v2 < (v1.len : Int)) ((H.ldI .i64 v1.b (v1.o + (v2 : Int).toNat * 1)).bind fun x5 => (callv app v3 [.int .i64 x3, .int .i64 x5] H).bind fun p6 => (p6.1.asI .i64).bind fun x7 => r329_j4 app (r329_l1 app k_) v1 v2 v3 v4 v5 (!(decide (x7 < 0))) p6.2)))
  else (r329_j4 app (r329_l1 app k_) v1 v2 v3 v4 v5 false H)
noncomputable def r329_j2 (app : App) (kt0 : Sl → Int → AV → Int → Int → Hp → Option ((Int × Bool) × Hp)) (v1 : Sl) (v2 : Int) (v3 : AV) (v4 v5 : Int) (v6 : Bool) (H : Hp) : Option ((Int × Bool) × Hp) := if v6 = true then (kt0 v1 v2 v3 (w64 (v4 + 1)) v5 H)
  else (r329_l1 app FUEL v1 v2 v3 v4 v5 H)
noncomputable def r329_l0 (app : App) : Nat → Sl → Int → AV → Int → Int → Hp → Option ((Int × Bool) × Hp)
  | 0, _, _, _, _, _, _ => none
  | k_ + 1, v1, v2, v3, v4, v5, H => if v4 ≤ v5 then (ck ((0 : Int) ≤ v4 ∧ v4 < (v1.len : Int)) ((H.ldI .i64 v1.b (v1.o + (v4 : Int).toNat * 1)).bind fun x3 => ck ((0 : Int) ≤ v2 ∧ v2 < (v1.len : Int)) ((H.ldI .i64 v1.b (v1.o + (v2 : Int).toNat * 1)).bind fun x5 => (callv app v3 [.int .i64 x3, .int .i64 x5] H).bind fun p6 => (p6.1.asI .i64).bind fun x7 => r329_j2 app (r329_l0 app k_) v1 v2 v3 v4 v5 (decide (x7 < 0)) p6.2)))
  else (r329_j2 app (r329_l0 app k_) v1 v2 v3 v4 v5 false H)
noncomputable def r329 (app : App) (a0 : Sl) (a1 a2 a3 : Int) (a4 : AV) (H : Hp) : Option ((Int × Bool) × Hp) := ck ((0 : Int) ≤ a3 ∧ a3 < (a0.len : Int)) ((H.ldI .i64 a0.b (a0.o + (a3 : Int).toNat * 1)).bind fun x2 => ck ((0 : Int) ≤ a1 ∧ a1 < (a0.len : Int)) ((H.ldI .i64 a0.b (a0.o + (a1 : Int).toNat * 1)).bind fun x4 => ck ((0 : Int) ≤ a1 ∧ a1 < (a0.len : Int)) ((H.st a0.b (a0.o + (a1 : Int).toNat * 1) (.int .i64 x2)).bind fun H6 => ck ((0 : Int) ≤ a3 ∧ a3 < (a0.len : Int)) ((H6.st a0.b (a0.o + (a3 : Int).toNat * 1) (.int .i64 x4)).bind fun H8 => r329_l0 app FUEL a0 a1 a4 (w64 (a1 + 1)) (w64 (a2 - 1)) H8))))
/- 295 slices.pdqsortCmpFunc[int] -/
def ret295 : Unit → AV := fun _ => .tup []
noncomputable def r295_j1 (app : App) (kt0 : Sl → Int → Int → Int → AV → Bool → Bool → Hp → Option (Unit × Hp)) (v1 : Sl) (v2 v3 v4 : Int) (v5 : AV) (v6 v7 : Bool) (v8 v9 : Int) (v10 : Bool) (H : Hp) : Option (Unit × Hp) := if v10 = true then ((r328 app v1 v2 v3 v9 v5 H).bind fun p2 => kt0 v1 p2.1 v3 v4 v5 v6 v7 p2.2)
  else ((r329 app v1 v2 v3 v9 v5 H).bind fun p3 => if (w64 (p3.1.1 - v2)) < (w64 (v3 - p3.1.1)) then ((app 295 [.sl v1, .int .i64 v2, .int .i64 p3.1.1, .int .i64 v4, v5] p3.2).bind fun p5 => kt0 v1 (w64 (p3.1.1 + 1)) v3 v4 v5 (decide ((w64 (Int.tdiv v8 8)) ≤ (w64 (p3.1.1 - v2)))) p3.1.2 p5.2)
    else ((app 295 [.sl v1, .int .i64 (w64 (p3.1.1 + 1)), .int .i64 v3, .int .i64 v4, v5] p3.2).bind fun p6 => kt0 v1 v2 p3.1.1 v4 v5 (decide ((w64 (Int.tdiv v8 8)) ≤ (w64 (v3 - p3.1.1)))) p3.1.2 p6.2))
noncomputable def r295_j2 (app : App) (kt0 : Sl → Int → Int → Int → AV → Bool → Bool → Hp → Option (Unit × Hp)) (v1 : Sl) (v2 v3 v4 : Int) (v5 : AV) (v6 v7 : Bool) (v8 v9 : Int) (H : Hp) : Option (Unit × Hp) := if 0 < v2 then (ck ((0 : Int) ≤ (w64 (v2 - 1)) ∧ (w64 (v2 - 1)) < (v1.len : Int)) ((H.ldI .i64 v1.b (v1.o + (w64 (v2 - 1) : Int).toNat * 1)).bind fun x3 => ck ((0 : Int) ≤ v9 ∧ v9 < (v1.len : Int)) ((H.ldI .i64 v1.b (v1.o + (v9 : Int).toNat * 1)).bind fun x5 => (callv app v5 [.int .i64 x3, .int .i64 x5] H).bind fun p6 => (p6.1.asI .i64).bind fun x7 => r295_j1 app kt0 v1 v2 v3 v4 v5 v6 v7 v8 v9 (!(decide (x7 < 0))) p6.2)))
  else (r295_j1 app kt0 v1 v2 v3 v4 v5 v6 v7 v8 v9 false H)
noncomputable def r295_j3 (app : App) (kt0 : Sl → Int → Int → Int → AV → Bool → Bool → Hp → Option (Unit × Hp)) (v1 : Sl) (v2 v3 v4 : Int) (v5 : AV) (v6 v7 : Bool) (v8 v9 : Int) (v10 : Bool) (H : Hp) : Option (Unit × Hp) := if v10 = true then ((r327 app v1 v2 v3 v5 H).bind fun p2 => if p2.1 = true then (some ((), p2.2))
    else (r295_j2 app kt0 v1 v2 v3 v4 v5 v6 v7 v8 v9 p2.2))
  else (r295_j2 app kt0 v1 v2 v3 v4 v5 v6 v7 v8 v9 H)
noncomputable def r295_j4 (app : App) (kt0 : Sl → Int → Int → Int → AV → Bool → Bool → Hp → Option (Unit × Hp)) (v1 : Sl) (v2 v3 v4 : Int) (v5 : AV) (v6 v7 : Bool) (v8 v9 v10 : Int) (H : Hp) : Option (Unit × Hp) := if v6 = true then (if v7 = true then (r295_j3 app kt0 v1 v2 v3 v4 v5 true true v8 v9 (decide (v10 = 1)) H)
    else (r295_j3 app kt0 v1 v2 v3 v4 v5 true false v8 v9 false H))
  else (r295_j3 app kt0 v1 v2 v3 v4 v5 false v7 v8 v9 false H)
noncomputable def r295_j5 (app : App) (kt0 : Sl → Int → Int → Int → AV → Bool → Bool → Hp → Option (Unit × Hp)) (v1 : Sl) (v2 v3 v4 : Int) (v5 : AV) (v6 v7 : Bool) (v8 : Int) (H : Hp) : Option (Unit × Hp) := (r325 app v1 v2 v3 v5 H).bind fun p1 => if p1.1.2 = 2 then ((r326 v1 v2 v3 v5 p1.2).bind fun p3 => r295_j4 app kt0 v1 v2 v3 v4 v5 v6 v7 v8 (w64 ((w64 (v3 - 1)) - (w64 (p1.1.1 - v2)))) 1 p3.2)
  else (r295_j4 app kt0 v1 v2 v3 v4 v5 v6 v7 v8 p1.1.1 p1.1.2 p1.2)
noncomputable def r295_l0 (app : App) : Nat → Sl → Int → Int → Int → AV → Bool → Bool → Hp → Option (Unit × Hp)
  | 0, _, _, _, _, _, _, _, _ => none
  | k_ + 1, v1, v2, v3, v4, v5, v6, v7, H => if (w64 (v3 - v2)) ≤ 12 then ((r322 app v1 v2 v3 v5 H).bind fun p2 => some ((), p2.2))
  else (if v4 = 0 then ((r323 app v1 v2 v3 v5 H).bind fun p4 => some ((), p4.2))
    else (if v6 = true then (r295_j5 app (r295_l0 app k_) v1 v2 v3 v4 v5 true v7 (w64 (v3 - v2)) H)
      else ((r324 v1 v2 v3 v5 H).bind fun p6 => r295_j5 app (r295_l0 app k_) v1 v2 v3 (w64 (v4 - 1)) v5 false v7 (w64 (v3 - v2)) p6.2)))
noncomputable def r295 (app : App) (a0 : Sl) (a1 a2 a3 : Int) (a4 : AV) (H : Hp) : Option (Unit × Hp) := r295_l0 app FUEL a0 a1 a2 a3 a4 true true H
/- 232 slices.SortFunc[[]int,int] -/
def ret232 : Unit → AV := fun _ => .tup []
noncomputable def r232 (app : App) (a0 : Sl) (a1 : AV) (H : Hp) : Option (Unit × Hp) := (r296 (IntKind.wrap .u64 ((a0.len : Int))) H).bind fun p1 => (r295 app a0 0 (a0.len : Int) p1.1 a1 p1.2).bind fun p2 => some ((), p2.2)
/- 171 slices.SortedFunc[int] -/
def ret171 : Sl → AV := fun r => .sl r
noncomputable def r171 (app : App) (a0 a1 : AV) (H : Hp) : Option (Sl × Hp) := (r231 app a0 H).bind fun p1 => (r232 app p1.1 a1 p1.2).bind fun p2 => some (p1.1, p2.2)
/- 172 slices.Values[[]int,int] -/
def ret172 : AV → AV := fun r => r
noncomputable def r172 (a0 : Sl) (H : Hp) : Option (AV × Hp) := lt (H.push (.cells [.sl a0] false)) fun H1 => some (.fn 233 [] [.ptr H.n 0], H1)
/- 173 congou/shares.down -/
def ret173 : Int → AV := fun r => .int .i64 r
noncomputable def r173 (a0 a1 : Int) (H : Hp) : Option (Int × Hp) := some (w64 (a1 - a0), H)
/- 120 congou/shares.falling -/
def ret120 : Sl → AV := fun r => .sl r
noncomputable def r120 (app : App) (a0 : Sl) (H : Hp) : Option (Sl × Hp) := (r172 a0 H).bind fun p1 => (r171 app p1.1 (.fn 173 [] []) p1.2).bind fun p2 => some (p2.1, p2.2)
/- 66 congou/shares.uneven -/
def ret66 : Bool → AV := fun r => .bool r
noncomputable def r66_l0 (app : App) : Nat → Sl → Sl → Int → Int → Hp → Option (Bool × Hp)
  | 0, _, _, _, _, _ => none
  | k_ + 1, v1, v2, v3, v4, H => if v4 < v3 then (ck ((0 : Int) ≤ v4 ∧ v4 < (v1.len : Int)) ((H.ldI .i64 v1.b (v1.o + (v4 : Int).toNat * 1)).bind fun x3 => ck ((0 : Int) ≤ v4 ∧ v4 < (v2.len : Int)) ((H.ldI .i64 v2.b (v2.o + (v4 : Int).toNat * 1)).bind fun x5 => if x3 < x5 then (some (false, H))
    else (r66_l0 app k_ v1 v2 v3 (w64 (v4 + 1)) H))))
  else (ck ((0 : Int) ≤ (w64 ((v1.len : Int) - 1)) ∧ (w64 ((v1.len : Int) - 1)) < (v1.len : Int)) ((H.ldI .i64 v1.b (v1.o + (w64 ((v1.len : Int) - 1) : Int).toNat * 1)).bind fun x8 => ck ((0 : Int) ≤ (w64 ((v2.len : Int) - 1)) ∧ (w64 ((v2.len : Int) - 1)) < (v2.len : Int)) ((H.ldI .i64 v2.b (v2.o + (w64 ((v2.len : Int) - 1) : Int).toNat * 1)).bind fun x10 => some ((decide (x8 = x10)), H))))
noncomputable def r66 (app : App) (a0 a1 : Sl) (H : Hp) : Option (Bool × Hp) := (r120 app a0 H).bind fun p1 => (r119 p1.1 p1.2).bind fun p2 => (r120 app a1 p2.2).bind fun p3 => (r119 p3.1 p3.2).bind fun p4 => r66_l0 app FUEL p2.1 p4.1 (p2.1.len : Int) 0 p4.2
/- 22 congou/shares.Uneven -/
def ret22 : Bool × Int → AV := fun r => .tup [.bool r.1, .int .i64 r.2]
noncomputable def r22 (app : App) (a0 a1 : Sl) (H : Hp) : Option ((Bool × Int) × Hp) := (r63 ⟨false, H.n, 0, 2, 2, 0⟩ (H.push (.cells [.sl a0, .sl a1] false))).bind fun p1 => if p1.1 = true then ((r66 app a0 a1 p1.2).bind fun p3 => some ((p3.1, 0), p3.2))
  else (some ((false, 2), p1.2))
/- 67 (congou/shares.Give).do -/
def ret67 : Bool → AV := fun r => .bool r
noncomputable def r67_j0 (v1 : Sl) (v2 : Nat) (v3 : Bool) (H : Hp) : Option (Bool × Hp) := if v3 = true then (some (false, H))
  else ((H.ldI .i64 v2 (0 + 0)).bind fun x2 => ck ((0 : Int) ≤ x2 ∧ x2 < (v1.len : Int)) ((H.ldI .i64 v1.b (v1.o + (x2 : Int).toNat * 1)).bind fun x4 => (H.ldI .i64 v2 (0 + 2)).bind fun x5 => ck ((0 : Int) ≤ x2 ∧ x2 < (v1.len : Int)) ((H.st v1.b (v1.o + (x2 : Int).toNat * 1) (.int .i64 (w64 (x4 - x5)))).bind fun H7 => (H7.ldI .i64 v2 (0 + 1)).bind fun x8 => ck ((0 : Int) ≤ x8 ∧ x8 < (v1.len : Int)) ((H7.ldI .i64 v1.b (v1.o + (x8 : Int).toNat * 1)).bind fun x10 => (H7.ldI .i64 v2 (0 + 2)).bind fun x11 => ck ((0 : Int) ≤ x8 ∧ x8 < (v1.len : Int)) ((H7.st v1.b (v1.o + (x8 : Int).toNat * 1) (.int .i64 (w64 (x10 + x11)))).bind fun H13 => some (true, H13))))))
noncomputable def r67 (a0_0 a0_1 a0_2 : Int) (a1 : Sl) (H : Hp) : Option (Bool × Hp) := lt (H.push (.cells [.int .i64 a0_0, .int .i64 a0_1, .int .i64 a0_2] false)) fun H1 => (H1.ldI .i64 H.n (0 + 0)).bind fun x2 => if x2 < 0 then (r67_j0 a1 H.n true H1)
  else ((H1.ldI .i64 H.n (0 + 0)).bind fun x4 => if (a1.len : Int) ≤ x4 then (r67_j0 a1 H.n true H1)
    else ((H1.ldI .i64 H.n (0 + 1)).bind fun x6 => if x6 < 0 then (r67_j0 a1 H.n true H1)
      else ((H1.ldI .i64 H.n (0 + 1)).bind fun x8 => if (a1.len : Int) ≤ x8 then (r67_j0 a1 H.n true H1)
        else ((H1.ldI .i64 H.n (0 + 0)).bind fun x10 => (H1.ldI .i64 H.n (0 + 1)).bind fun x11 => if x10 = x11 then (r67_j0 a1 H.n true H1)
          else ((H1.ldI .i64 H.n (0 + 2)).bind fun x13 => if x13 < 1 then (r67_j0 a1 H.n true H1)
            else ((H1.ldI .i64 H.n (0 + 2)).bind fun x15 => if 20 < x15 then (r67_j0 a1 H.n true H1)
              else ((H1.ldI .i64 H.n (0 + 0)).bind fun x17 => ck ((0 : Int) ≤ x17 ∧ x17 < (a1.len : Int)) ((H1.ldI .i64 a1.b (a1.o + (x17 : Int).toNat * 1)).bind fun x19 => (H1.ldI .i64 H.n (0 + 1)).bind fun x20 => ck ((0 : Int) ≤ x20 ∧ x20 < (a1.len : Int)) ((H1.ldI .i64 a1.b (a1.o + (x20 : Int).toNat * 1)).bind fun x22 => (H1.ldI .i64 H.n (0 + 2)).bind fun x23 => r67_j0 a1 H.n (decide ((w64 (x19 - x22)) < (w64 (2 * x23)))) H1)))))))))
/- 24 congou/shares.CheckGives -/
def ret24 : Bool × Int → AV := fun r => .tup [.bool r.1, .int .i64 r.2]
noncomputable def r24_l0 : Nat → Sl → Sl → Sl → Int → Int → Hp → Option ((Bool × Int) × Hp)
  | 0, _, _, _, _, _, _ => none
  | k_ + 1, v1, v2, v3, v4, v5, H => if v5 < v4 then (ck ((0 : Int) ≤ v5 ∧ v5 < (v3.len : Int)) ((H.ldI .i64 v3.b (v3.o + (v5 : Int).toNat * 3)).bind fun x3 => (H.ldI .i64 v3.b ((v3.o + (v5 : Int).toNat * 3) + 1)).bind fun x4 => (H.ldI .i64 v3.b ((v3.o + (v5 : Int).toNat * 3) + 2)).bind fun x5 => ((H.push (.cells [.int .i64 0, .int .i64 0, .int .i64 0] false)).sts H.n 0 [.int .i64 x3, .int .i64 x4, .int .i64 x5]).bind fun H6 => (H6.ldI .i64 H.n 0).bind fun x7 => (H6.ldI .i64 H.n (0 + 1)).bind fun x8 => (H6.ldI .i64 H.n (0 + 2)).bind fun x9 => (r67 x7 x8 x9 v2 H6).bind fun p10 => if p10.1 = true then (r24_l0 k_ v1 v2 v3 v4 (w64 (v5 + 1)) p10.2)
    else (some ((false, 0), p10.2))))
  else ((r21 v2 v1 H).bind fun p12 => some ((p12.1, 0), p12.2))
noncomputable def r24 (a0 a1 a2 : Sl) (H : Hp) : Option ((Bool × Int) × Hp) := (r63 ⟨false, H.n, 0, 2, 2, 0⟩ (H.push (.cells [.sl a0, .sl a1] false))).bind fun p1 => if p1.1 = true then ((r18 a0 p1.2).bind fun p3 => r24_l0 FUEL a1 p3.1 a2 (a2.len : Int) 0 p3.2)
  else (some ((false, 2), p1.2))
/- 4 congou/congoutop.TopGap -/
def ret4 : Bool → AV := fun r => .bool r
noncomputable def r4_j0 (app : App) (v1 v2 : ByteArray) (v3 : Int) (v4 v5 : Nat) (v6 v7 : Sl) (v8 : Bool) (H : Hp) : Option (Bool × Hp) := if v8 = true then (some (false, H))
  else (ck ((ByteArray.mk #[103, 105, 118, 101, 32]).size + v1.size ≤ 9223372036854775807) (ck (((ByteArray.mk #[103, 105, 118, 101, 32]) ++ v1).size + (ByteArray.mk #[32]).size ≤ 9223372036854775807) (ck ((((ByteArray.mk #[103, 105, 118, 101, 32]) ++ v1) ++ (ByteArray.mk #[32])).size + v2.size ≤ 9223372036854775807) ((r19 app ⟨false, H.n, 0, 1, 1, 0⟩ (H.push (.cells [.int .i64 (w64 (Int.tmod (IntKind.wrap .u64 (v3)) 12))] false))).bind fun p5 => ck (((((ByteArray.mk #[103, 105, 118, 101, 32]) ++ v1) ++ (ByteArray.mk #[32])) ++ v2).size + p5.1.size ≤ 9223372036854775807) ((r20 app v4 v5 (((((ByteArray.mk #[103, 105, 118, 101, 32]) ++ v1) ++ (ByteArray.mk #[32])) ++ v2) ++ p5.1) p5.2).bind fun p7 => (r11 app v4 v5 p7.2).bind fun p8 => ((p8.2.push (.cells [.int .i64 0, .int .i64 0, .int .i64 0, .int .i64 0] false)).sts p8.2.n 0 [.int .i64 p8.1.2.2.2.1, .int .i64 p8.1.2.2.2.2.1, .int .i64 p8.1.2.2.2.2.2.1, .int .i64 p8.1.2.2.2.2.2.2.1]).bind fun H9 => if p7.1.2 ≠ 0 then ((r21 p8.1.2.1 v7 H9).bind fun p11 => if p11.1 = true then ((app 16 [] p11.2).bind fun p13 => (p13.1.asB).bind fun x14 => some (x14, p13.2))
      else (some (false, p11.2)))
    else ((r18 v7 H9).bind fun p15 => (r18 p8.1.2.1 p15.2).bind fun p16 => (r22 app p15.1 p16.1 p16.2).bind fun p17 => (r23 v6 v1 p17.2).bind fun p18 => (r23 v6 v2 p18.2).bind fun p19 => (r24 v7 p8.1.2.1 ⟨false, p19.2.n, 0, 1, 1, 0⟩ (p19.2.push (.cells [.int .i64 p18.1, .int .i64 p19.1, .int .i64 (w64 (Int.tmod (IntKind.wrap .u64 (v3)) 12))] false))).bind fun p20 => if p17.1.1 = true then (if p17.1.2 = 0 then (if p20.1.1 = true then (if p20.1.2 = 0 then ((app 16 [] p20.2).bind fun p25 => (p25.1.asB).bind fun x26 => some (x26, p25.2))
            else (some (false, p20.2)))
          else (some (false, p20.2)))
        else (some (false, p20.2)))
      else (some (false, p20.2))))))))
noncomputable def r4 (app : App) (a0 : Sl) (a1 a2 : ByteArray) (a3 : Int) (H : Hp) : Option (Bool × Hp) := (r10 app a0 H).bind fun p1 => (r11 app p1.1.1 p1.1.2 p1.2).bind fun p2 => ((p2.2.push (.cells [.int .i64 0, .int .i64 0, .int .i64 0, .int .i64 0] false)).sts p2.2.n 0 [.int .i64 p2.1.2.2.2.1, .int .i64 p2.1.2.2.2.2.1, .int .i64 p2.1.2.2.2.2.2.1, .int .i64 p2.1.2.2.2.2.2.2.1]).bind fun H3 => (r14 app p1.1.1 p1.1.2 (ByteArray.mk #[103, 97, 112]) H3).bind fun p4 => if (p2.1.1.len : Int) = 0 then (if (strEq p4.1.1 (ByteArray.mk #[])) = true then (if p4.1.2 = 4 then ((app 16 [] p4.2).bind fun p8 => (p8.1.asB).bind fun x9 => some (x9, p8.2))
      else (some (false, p4.2)))
    else (some (false, p4.2)))
  else ((r18 p2.1.2.1 p4.2).bind fun p10 => (r17 p10.1 p10.2).bind fun p11 => if p4.1.2 ≠ 0 then (r4_j0 app a1 a2 a3 p1.1.1 p1.1.2 p2.1.1 p2.1.2.1 true p11.2)
    else (if p11.1.2 ≠ 0 then (r4_j0 app a1 a2 a3 p1.1.1 p1.1.2 p2.1.1 p2.1.2.1 true p11.2)
      else ((r19 app ⟨false, p11.2.n, 0, 1, 1, 0⟩ (p11.2.push (.cells [.int .i64 p11.1.1] false))).bind fun p14 => ck ((ByteArray.mk #[103, 97, 112]).size + p14.1.size ≤ 9223372036854775807) (r4_j0 app a1 a2 a3 p1.1.1 p1.1.2 p2.1.1 p2.1.2.1 (!(strEq p4.1.1 ((ByteArray.mk #[103, 97, 112]) ++ p14.1))) p14.2))))
/- 91 congou/counts.isSums -/
def ret91 : Bool → AV := fun r => .bool r
noncomputable def r91_j1 (kt0 : Int → Sl → Int → Int → Hp → Option (Bool × Hp)) (v1 v2 : Int) (v3 : Sl) (v4 v5 : Int) (v6 : Bool) (H : Hp) : Option (Bool × Hp) := if v6 = true then (some (false, H))
  else (kt0 (w64 (v1 + v2)) v3 v4 (w64 (v5 + 1)) H)
noncomputable def r91_l0 : Nat → Int → Sl → Int → Int → Hp → Option (Bool × Hp)
  | 0, _, _, _, _, _ => none
  | k_ + 1, v1, v2, v3, v4, H => if v4 < v3 then (ck ((0 : Int) ≤ v4 ∧ v4 < (v2.len : Int)) ((H.ldI .i64 v2.b (v2.o + (v4 : Int).toNat * 1)).bind fun x3 => if x3 < 0 then (r91_j1 (r91_l0 k_) v1 x3 v2 v3 v4 true H)
    else (r91_j1 (r91_l0 k_) v1 x3 v2 v3 v4 (decide (16 < x3)) H)))
  else (some ((decide (v1 ≤ 16)), H))
noncomputable def r91 (a0 : Sl) (H : Hp) : Option (Bool × Hp) := r91_l0 FUEL 0 a0 (a0.len : Int) 0 H
/- 54 (congou/counts.table).valid -/
def ret54 : Bool → AV := fun r => .bool r
noncomputable def r54_l3 (kt1 : Sl → Int → Sl → Int → Int → Hp → Option (Bool × Hp)) : Nat → Sl → Int → Sl → Int → Int → Sl → Int → Int → Hp → Option (Bool × Hp)
  | 0, _, _, _, _, _, _, _, _, _ => none
  | k_ + 1, v1, v2, v3, v4, v5, v6, v7, v8, H => if v8 < v7 then (ck ((0 : Int) ≤ v8 ∧ v8 < (v6.len : Int)) ((H.ldI .i64 v6.b (v6.o + (v8 : Int).toNat * 1)).bind fun x3 => r54_l3 kt1 k_ v1 (w64 (v2 + x3)) v3 v4 v5 v6 v7 (w64 (v8 + 1)) H))
  else (kt1 v1 v2 v3 v4 (w64 (v5 + 1)) H)
noncomputable def r54_j2 (kt1 : Sl → Int → Sl → Int → Int → Hp → Option (Bool × Hp)) (v1 : Sl) (v2 : Int) (v3 v4 : Sl) (v5 v6 : Int) (v7 : Bool) (H : Hp) : Option (Bool × Hp) := if v7 = true then (some (false, H))
  else (r54_l3 kt1 FUEL v1 v2 v4 v5 v6 v3 (v3.len : Int) 0 H)
noncomputable def r54_l1 : Nat → Sl → Int → Sl → Int → Int → Hp → Option (Bool × Hp)
  | 0, _, _, _, _, _, _ => none
  | k_ + 1, v1, v2, v3, v4, v5, H => if v5 < v4 then (ck ((0 : Int) ≤ v5 ∧ v5 < (v3.len : Int)) ((H.ldSl v3.b (v3.o + (v5 : Int).toNat * 1)).bind fun x3 => if (x3.len : Int) < 1 then (r54_j2 (r54_l1 k_) v1 v2 x3 v3 v4 v5 true H)
    else (if 3 < (x3.len : Int) then (r54_j2 (r54_l1 k_) v1 v2 x3 v3 v4 v5 true H)
      else (ck ((0 : Int) ≤ 0 ∧ 0 < (v1.len : Int)) ((H.ldSl v1.b (v1.o + (0 : Int).toNat * 1)).bind fun x7 => if (x3.len : Int) ≠ (x7.len : Int) then (r54_j2 (r54_l1 k_) v1 v2 x3 v3 v4 v5 true H)
        else ((r91 x3 H).bind fun p9 => r54_j2 (r54_l1 k_) v1 v2 x3 v3 v4 v5 (!p9.1) p9.2))))))
  else (some ((decide (v2 ≤ 16)), H))
noncomputable def r54_j0 (v1 : Sl) (v2 : Bool) (H : Hp) : Option (Bool × Hp) := if v2 = true then (some (false, H))
  else (r54_l1 FUEL v1 0 v1 (v1.len : Int) 0 H)
noncomputable def r54 (a0 : Sl) (H : Hp) : Option (Bool × Hp) := if (a0.len : Int) < 1 then (r54_j0 a0 true H)
  else (r54_j0 a0 (decide (3 < (a0.len : Int))) H)
/- 59 congou/counts.choose -/
def ret59 : Int → AV := fun r => .int .i64 r
noncomputable def r59_l1 (kt0 : Int → Int → Sl → Int → Int → Hp → Option (Int × Hp)) : Nat → Int → Int → Int → Int → Sl → Int → Int → Hp → Option (Int × Hp)
  | 0, _, _, _, _, _, _, _, _ => none
  | k_ + 1, v1, v2, v3, v4, v5, v6, v7, H => if v4 ≤ v3 then (ck (v4 ≠ 0) (r59_l1 kt0 k_ (w64 (Int.tdiv (w64 (v1 * (w64 (v2 + 1)))) v4)) (w64 (v2 + 1)) v3 (w64 (v4 + 1)) v5 v6 v7 H))
  else (kt0 v1 v2 v5 v6 (w64 (v7 + 1)) H)
noncomputable def r59_l0 : Nat → Int → Int → Sl → Int → Int → Hp → Option (Int × Hp)
  | 0, _, _, _, _, _, _ => none
  | k_ + 1, v1, v2, v3, v4, v5, H => if v5 < v4 then (ck ((0 : Int) ≤ v5 ∧ v5 < (v3.len : Int)) ((H.ldI .i64 v3.b (v3.o + (v5 : Int).toNat * 1)).bind fun x3 => r59_l1 (r59_l0 k_) FUEL v1 v2 x3 1 v3 v4 v5 H))
  else (some (v1, H))
noncomputable def r59 (a0 : Sl) (H : Hp) : Option (Int × Hp) := r59_l0 FUEL 1 0 a0 (a0.len : Int) 0 H
/- 55 (congou/counts.table).weight -/
def ret55 : Int → AV := fun r => .int .i64 r
noncomputable def r55_l0 : Nat → Int → Sl → Int → Int → Hp → Option (Int × Hp)
  | 0, _, _, _, _, _ => none
  | k_ + 1, v1, v2, v3, v4, H => if v4 < v3 then (ck ((0 : Int) ≤ v4 ∧ v4 < (v2.len : Int)) ((H.ldSl v2.b (v2.o + (v4 : Int).toNat * 1)).bind fun x3 => (r59 x3 H).bind fun p4 => r55_l0 k_ (w64 (v1 * p4.1)) v2 v3 (w64 (v4 + 1)) p4.2))
  else (some (v1, H))
noncomputable def r55 (a0 : Sl) (H : Hp) : Option (Int × Hp) := r55_l0 FUEL 1 a0 (a0.len : Int) 0 H
/- 92 (congou/counts.table).sums -/
def ret92 : Sl × Sl → AV := fun r => .tup [.sl r.1, .sl r.2]
noncomputable def r92_l1 (kt0 : Sl → Sl → Sl → Int → Int → Hp → Option ((Sl × Sl) × Hp)) : Nat → Sl → Sl → Int → Sl → Int → Int → Sl → Int → Int → Hp → Option ((Sl × Sl) × Hp)
  | 0, _, _, _, _, _, _, _, _, _, _ => none
  | k_ + 1, v1, v2, v3, v4, v5, v6, v7, v8, v9, H => if v9 < v8 then (ck ((0 : Int) ≤ v9 ∧ v9 < (v7.len : Int)) ((H.ldI .i64 v7.b (v7.o + (v9 : Int).toNat * 1)).bind fun x3 => ck ((0 : Int) ≤ v9 ∧ v9 < (v2.len : Int)) ((H.ldI .i64 v2.b (v2.o + (v9 : Int).toNat * 1)).bind fun x5 => ck ((0 : Int) ≤ v9 ∧ v9 < (v2.len : Int)) ((H.st v2.b (v2.o + (v9 : Int).toNat * 1) (.int .i64 (w64 (x5 + x3)))).bind fun H7 => r92_l1 kt0 k_ v1 v2 (w64 (v3 + x3)) v4 v5 v6 v7 v8 (w64 (v9 + 1)) H7))))
  else ((H.apN 1 v1 [.int .i64 v3] 1).bind fun x8 => kt0 x8.1 v2 v4 v5 (w64 (v6 + 1)) x8.2)
noncomputable def r92_l0 : Nat → Sl → Sl → Sl → Int → Int → Hp → Option ((Sl × Sl) × Hp)
  | 0, _, _, _, _, _, _ => none
  | k_ + 1, v1, v2, v3, v4, v5, H => if v5 < v4 then (ck ((0 : Int) ≤ v5 ∧ v5 < (v3.len : Int)) ((H.ldSl v3.b (v3.o + (v5 : Int).toNat * 1)).bind fun x3 => r92_l1 (r92_l0 k_) FUEL v1 v2 0 v3 v4 v5 x3 (x3.len : Int) 0 H))
  else (some ((v1, v2), H))
noncomputable def r92 (a0 : Sl) (H : Hp) : Option ((Sl × Sl) × Hp) := ck ((0 : Int) ≤ 0 ∧ 0 < (a0.len : Int)) ((H.ldSl a0.b (a0.o + (0 : Int).toNat * 1)).bind fun x2 => ck ((0 : Int) ≤ (x2.len : Int) ∧ (x2.len : Int) ≤ (x2.len : Int) ∧ (x2.len : Int) ≤ 4294967296) (lt (H.push (.cells (zerosA [.int .i64 0] (((x2.len : Int) : Int).toNat * 1)) false)) fun H4 => r92_l0 FUEL ⟨true, 0, 0, 0, 0, 0⟩ ⟨false, H.n, 0, ((x2.len : Int) : Int).toNat, ((x2.len : Int) : Int).toNat, 0⟩ a0 (a0.len : Int) 0 H4))
/- 56 (congou/counts.table).family -/
def ret56 : Sl × Sl → AV := fun r => .agg [.sl r.1, .sl r.2]
noncomputable def r56 (a0 : Sl) (H : Hp) : Option ((Sl × Sl) × Hp) := lt (H.push (.cells [.sl ⟨true, 0, 0, 0, 0, 0⟩, .sl ⟨true, 0, 0, 0, 0, 0⟩] false)) fun H1 => (r92 a0 H1).bind fun p2 => (p2.2.sts H.n 0 [.sl p2.1.1, .sl p2.1.2]).bind fun H3 => (H3.ldSl H.n 0).bind fun x4 => (H3.ldSl H.n (0 + 1)).bind fun x5 => some ((x4, x5), H3)
/- 96 congou/counts.gcd -/
def ret96 : Int → AV := fun r => .int .i64 r
noncomputable def r96_l0 : Nat → Int → Int → Hp → Option (Int × Hp)
  | 0, _, _, _ => none
  | k_ + 1, v1, v2, H => if v2 ≠ 0 then (ck (v2 ≠ 0) (r96_l0 k_ v2 (Int.tmod v1 v2) H))
  else (some ((if v1 < (w64 (0 - v1)) then (w64 (0 - v1)) else v1), H))
noncomputable def r96 (a0 a1 : Int) (H : Hp) : Option (Int × Hp) := r96_l0 FUEL a0 a1 H
/- 58 congou/counts.frac -/
def ret58 : Int × Int → AV := fun r => .agg [.int .i64 r.1, .int .i64 r.2]
noncomputable def r58 (a0 a1 : Int) (H : Hp) : Option ((Int × Int) × Hp) := lt (H.push (.cells [.int .i64 0, .int .i64 0] false)) fun H1 => (r96 a0 a1 H1).bind fun p2 => ck (p2.1 ≠ 0) (ck (p2.1 ≠ 0) ((p2.2.sts H.n 0 [.int .i64 (w64 (Int.tdiv a0 p2.1)), .int .i64 (w64 (Int.tdiv a1 p2.1))]).bind fun H5 => (H5.ldI .i64 H.n 0).bind fun x6 => (H5.ldI .i64 H.n (0 + 1)).bind fun x7 => some ((x6, x7), H5)))
/- 13 congou/counts.Tail -/
def ret13 : Int × Int × Int → AV := fun r => .tup [.agg [.int .i64 r.1, .int .i64 r.2.1], .int .i64 r.2.2]
noncomputable def r13 (app : App) (a0 : Sl) (H : Hp) : Option ((Int × Int × Int) × Hp) := lt (H.push (.cells [.int .i64 0, .int .i64 0] false)) fun H1 => (r54 a0 H1).bind fun p2 => if p2.1 = true then ((r55 a0 p2.2).bind fun p4 => ((p4.2.push (.cells [.int .i64 0] false)).st p4.2.n 0 (.int .i64 p4.1)).bind fun H5 => ((H5.push (.cells [.int .i64 0] false)).st H5.n 0 (.int .i64 0)).bind fun H6 => (r56 a0 H6).bind fun p7 => (callr app (.fn 57 [.agg [.sl p7.1.1, .sl p7.1.2]] []) (p7.2.n + 1) ((p7.2.push .dfr).push (.loop .ready none 0 32 [(4, .ptr p4.2.n 0), (5, .ptr H5.n 0)]))).bind fun p8 => (p8.2.lend (p7.2.n + 1)).bind fun q9 => if jmp q9.1 = some 0 then ((q9.2.ldI .i64 H5.n 0).bind fun x11 => (r56 a0 q9.2).bind fun p12 => (r59 p12.1.2 p12.2).bind fun p13 => (r58 x11 p13.1 p13.2).bind fun p14 => (p14.2.sts H.n 0 [.int .i64 p14.1.1, .int .i64 p14.1.2]).bind fun H15 => ck (p12.2.ldI .i64 H5.n 0 = some x11) (ck (p13.2.ldI .i64 H5.n 0 = some x11) ((H15.ldI .i64 H.n 0).bind fun x18 => (H15.ldI .i64 H.n (0 + 1)).bind fun x19 => ck (dfrB [p7.2.n] H15 = true) (some ((x18, x19, 0), kill [p7.2.n] H15)))))
    else (none))
  else ((p2.2.sts H.n 0 [.int .i64 0, .int .i64 0]).bind fun H21 => (H21.ldI .i64 H.n 0).bind fun x22 => (H21.ldI .i64 H.n (0 + 1)).bind fun x23 => some ((x22, x23, 2), H21))
noncomputable def r13q0 (app : App) (l_ v1 v2 : Nat) (y0 : Sl) (H : Hp) : Option ((Option Code) × Hp) := (H.lbegin l_).bind fun H1 => (r55 y0 H1).bind fun p2 => (p2.2.ldI .i64 v1 0).bind fun x3 => if p2.1 ≤ x3 then ((p2.2.ldI .i64 v2 0).bind fun x5 => (p2.2.st v2 0 (.int .i64 (w64 (x5 + p2.1)))).bind fun H6 => some (none, H6))
  else (some (none, p2.2))
/- 68 congou/sketch.isK -/
def ret68 : Bool → AV := fun r => .bool r
noncomputable def r68 (a0 : Int) (H : Hp) : Option (Bool × Hp) := if 1 ≤ a0 then (some ((decide (a0 ≤ 8)), H))
  else (some (false, H))
/- 174 slices.IndexFunc[[]int,int] -/
def ret174 : Int → AV := fun r => .int .i64 r
noncomputable def r174_l0 (app : App) : Nat → Sl → AV → Int → Int → Hp → Option (Int × Hp)
  | 0, _, _, _, _, _ => none
  | k_ + 1, v1, v2, v3, v4, H => if v4 < v3 then (ck ((0 : Int) ≤ v4 ∧ v4 < (v1.len : Int)) ((H.ldI .i64 v1.b (v1.o + (v4 : Int).toNat * 1)).bind fun x3 => (callv app v2 [.int .i64 x3] H).bind fun p4 => (p4.1.asB).bind fun x5 => if x5 = true then (some (v4, p4.2))
    else (r174_l0 app k_ v1 v2 v3 (w64 (v4 + 1)) p4.2)))
  else (some ((-1), H))
noncomputable def r174 (app : App) (a0 : Sl) (a1 : AV) (H : Hp) : Option (Int × Hp) := r174_l0 app FUEL a0 a1 (a0.len : Int) 0 H
/- 121 slices.ContainsFunc[[]int,int] -/
def ret121 : Bool → AV := fun r => .bool r
noncomputable def r121 (app : App) (a0 : Sl) (a1 : AV) (H : Hp) : Option (Bool × Hp) := (r174 app a0 a1 H).bind fun p1 => some ((decide (0 ≤ p1.1)), p1.2)
/- 74 congou/sketch.isKey -/
def ret74 : Bool → AV := fun r => .bool r
noncomputable def r74 (a0 : Int) (H : Hp) : Option (Bool × Hp) := if 0 ≤ a0 then (some ((decide (a0 < 16)), H))
  else (some (false, H))
/- 122 congou/sketch.isStream$1 -/
def ret122 : Bool → AV := fun r => .bool r
noncomputable def r122 (a0 : Int) (H : Hp) : Option (Bool × Hp) := (r74 a0 H).bind fun p1 => some ((!p1.1), p1.2)
/- 69 congou/sketch.isStream -/
def ret69 : Bool → AV := fun r => .bool r
noncomputable def r69 (app : App) (a0 : Sl) (H : Hp) : Option (Bool × Hp) := if (a0.len : Int) ≤ 40 then ((r121 app a0 (.fn 122 [] []) H).bind fun p2 => some ((!p2.1), p2.2))
  else (some (false, H))
/- 70 congou/sketch.often -/
def ret70 : Int × Int × Int × Int × Int × Int × Int × Int × Int × Int × Int × Int × Int × Int × Int × Int → AV := fun r => .agg [.int .i64 r.1, .int .i64 r.2.1, .int .i64 r.2.2.1, .int .i64 r.2.2.2.1, .int .i64 r.2.2.2.2.1, .int .i64 r.2.2.2.2.2.1, .int .i64 r.2.2.2.2.2.2.1, .int .i64 r.2.2.2.2.2.2.2.1, .int .i64 r.2.2.2.2.2.2.2.2.1, .int .i64 r.2.2.2.2.2.2.2.2.2.1, .int .i64 r.2.2.2.2.2.2.2.2.2.2.1, .int .i64 r.2.2.2.2.2.2.2.2.2.2.2.1, .int .i64 r.2.2.2.2.2.2.2.2.2.2.2.2.1, .int .i64 r.2.2.2.2.2.2.2.2.2.2.2.2.2.1, .int .i64 r.2.2.2.2.2.2.2.2.2.2.2.2.2.2.1, .int .i64 r.2.2.2.2.2.2.2.2.2.2.2.2.2.2.2]
noncomputable def r70_l0 : Nat → Nat → Nat → Sl → Int → Int → Hp → Option ((Int × Int × Int × Int × Int × Int × Int × Int × Int × Int × Int × Int × Int × Int × Int × Int) × Hp)
  | 0, _, _, _, _, _, _ => none
  | k_ + 1, v1, v2, v3, v4, v5, H => if v5 < v4 then (ck ((0 : Int) ≤ v5 ∧ v5 < (v3.len : Int)) ((H.ldI .i64 v3.b (v3.o + (v5 : Int).toNat * 1)).bind fun x3 => ck ((0 : Int) ≤ x3 ∧ x3 < ((16 : Nat) : Int)) ((H.ldI .i64 v2 (0 + (x3 : Int).toNat * 1)).bind fun x5 => ck ((0 : Int) ≤ x3 ∧ x3 < ((16 : Nat) : Int)) ((H.st v2 (0 + (x3 : Int).toNat * 1) (.int .i64 (w64 (x5 + 1)))).bind fun H7 => r70_l0 k_ v1 v2 v3 v4 (w64 (v5 + 1)) H7))))
  else ((H.ldI .i64 v2 0).bind fun x8 => (H.ldI .i64 v2 (0 + 1)).bind fun x9 => (H.ldI .i64 v2 (0 + 2)).bind fun x10 => (H.ldI .i64 v2 (0 + 3)).bind fun x11 => (H.ldI .i64 v2 (0 + 4)).bind fun x12 => (H.ldI .i64 v2 (0 + 5)).bind fun x13 => (H.ldI .i64 v2 (0 + 6)).bind fun x14 => (H.ldI .i64 v2 (0 + 7)).bind fun x15 => (H.ldI .i64 v2 (0 + 8)).bind fun x16 => (H.ldI .i64 v2 (0 + 9)).bind fun x17 => (H.ldI .i64 v2 (0 + 10)).bind fun x18 => (H.ldI .i64 v2 (0 + 11)).bind fun x19 => (H.ldI .i64 v2 (0 + 12)).bind fun x20 => (H.ldI .i64 v2 (0 + 13)).bind fun x21 => (H.ldI .i64 v2 (0 + 14)).bind fun x22 => (H.ldI .i64 v2 (0 + 15)).bind fun x23 => (H.sts v1 0 [.int .i64 x8, .int .i64 x9, .int .i64 x10, .int .i64 x11, .int .i64 x12, .int .i64 x13, .int .i64 x14, .int .i64 x15, .int .i64 x16, .int .i64 x17, .int .i64 x18, .int .i64 x19, .int .i64 x20, .int .i64 x21, .int .i64 x22, .int .i64 x23]).bind fun H24 => (H24.ldI .i64 v1 0).bind fun x25 => (H24.ldI .i64 v1 (0 + 1)).bind fun x26 => (H24.ldI .i64 v1 (0 + 2)).bind fun x27 => (H24.ldI .i64 v1 (0 + 3)).bind fun x28 => (H24.ldI .i64 v1 (0 + 4)).bind fun x29 => (H24.ldI .i64 v1 (0 + 5)).bind fun x30 => (H24.ldI .i64 v1 (0 + 6)).bind fun x31 => (H24.ldI .i64 v1 (0 + 7)).bind fun x32 => (H24.ldI .i64 v1 (0 + 8)).bind fun x33 => (H24.ldI .i64 v1 (0 + 9)).bind fun x34 => (H24.ldI .i64 v1 (0 + 10)).bind fun x35 => (H24.ldI .i64 v1 (0 + 11)).bind fun x36 => (H24.ldI .i64 v1 (0 + 12)).bind fun x37 => (H24.ldI .i64 v1 (0 + 13)).bind fun x38 => (H24.ldI .i64 v1 (0 + 14)).bind fun x39 => (H24.ldI .i64 v1 (0 + 15)).bind fun x40 => some ((x25, x26, x27, x28, x29, x30, x31, x32, x33, x34, x35, x36, x37, x38, x39, x40), H24))
noncomputable def r70 (a0 : Sl) (H : Hp) : Option ((Int × Int × Int × Int × Int × Int × Int × Int × Int × Int × Int × Int × Int × Int × Int × Int) × Hp) := lt (H.push (.cells [.int .i64 0, .int .i64 0, .int .i64 0, .int .i64 0, .int .i64 0, .int .i64 0, .int .i64 0, .int .i64 0, .int .i64 0, .int .i64 0, .int .i64 0, .int .i64 0, .int .i64 0, .int .i64 0, .int .i64 0, .int .i64 0] false)) fun H1 => lt (H1.push (.cells [.int .i64 0, .int .i64 0, .int .i64 0, .int .i64 0, .int .i64 0, .int .i64 0, .int .i64 0, .int .i64 0, .int .i64 0, .int .i64 0, .int .i64 0, .int .i64 0, .int .i64 0, .int .i64 0, .int .i64 0, .int .i64 0] false)) fun H2 => r70_l0 FUEL H.n H1.n a0 (a0.len : Int) 0 H2
end Go.Lt.P10
