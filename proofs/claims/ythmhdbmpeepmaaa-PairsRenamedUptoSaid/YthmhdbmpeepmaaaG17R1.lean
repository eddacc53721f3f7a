/- PRINTED BY A PROGRAM OF OURS: what each function that 'PairsRenamed' reaches computes on the abstract heap, and that the translated code does just that. Nothing is asked of the input. -/
import Derived.Test.YthmhdbmpeepmaaaG17R0
set_option linter.unusedVariables false
set_option linter.unusedSimpArgs false
set_option maxRecDepth 100000
set_option maxHeartbeats 4000000
namespace Go.Lt.P8
open Go Go.Lt Go.Proofs
/- 121 slices.partitionCmpFunc[[2]int] -/
def ret121 : Int × Bool → AV := fun r => .tup [.int .i64 r.1, .bool r.2]
noncomputable def r121_j8 (app : App) (kt3 : Sl → Int → AV → Int → Int → Hp → Option ((Int × Bool) × Hp)) (kt6 : Sl → Int → AV → Int → Int → Hp → Option ((Int × Bool) × Hp)) (v1 : Sl) (v2 : Int) (v3 : AV) (v4 : Int) (v5 : Int) (v6 : Bool) (H : Hp) : Option ((Int × Bool) × Hp) :=
  if v6 = true then
    (kt6 v1 v2 v3 v4 (w64 (v5 - 1)) H)
  else
    (if v5 < v4 then
      (ck ((0 : Int) ≤ v2 ∧ v2 < (v1.len : Int)) (
      (H.ldI .i64 v1.b (v1.o + (v2 : Int).toNat * 2)).bind fun x4 =>
      (H.ldI .i64 v1.b ((v1.o + (v2 : Int).toNat * 2) + 1)).bind fun x5 =>
      ck ((0 : Int) ≤ v5 ∧ v5 < (v1.len : Int)) (
      (H.ldI .i64 v1.b (v1.o + (v5 : Int).toNat * 2)).bind fun x7 =>
      (H.ldI .i64 v1.b ((v1.o + (v5 : Int).toNat * 2) + 1)).bind fun x8 =>
      ck ((0 : Int) ≤ v5 ∧ v5 < (v1.len : Int)) (
      (H.sts v1.b (v1.o + (v5 : Int).toNat * 2) [.int .i64 x4, .int .i64 x5]).bind fun H10 =>
      ck ((0 : Int) ≤ v2 ∧ v2 < (v1.len : Int)) (
      (H10.sts v1.b (v1.o + (v2 : Int).toNat * 2) [.int .i64 x7, .int .i64 x8]).bind fun H12 =>
      some ((v5, false), H12))))))
    else
      (ck ((0 : Int) ≤ v5 ∧ v5 < (v1.len : Int)) (
      (H.ldI .i64 v1.b (v1.o + (v5 : Int).toNat * 2)).bind fun x14 =>
      (H.ldI .i64 v1.b ((v1.o + (v5 : Int).toNat * 2) + 1)).bind fun x15 =>
      ck ((0 : Int) ≤ v4 ∧ v4 < (v1.len : Int)) (
      (H.ldI .i64 v1.b (v1.o + (v4 : Int).toNat * 2)).bind fun x17 =>
      (H.ldI .i64 v1.b ((v1.o + (v4 : Int).toNat * 2) + 1)).bind fun x18 =>
      ck ((0 : Int) ≤ v4 ∧ v4 < (v1.len : Int)) (
      (H.sts v1.b (v1.o + (v4 : Int).toNat * 2) [.int .i64 x14, .int .i64 x15]).bind fun H20 =>
      ck ((0 : Int) ≤ v5 ∧ v5 < (v1.len : Int)) (
      (H20.sts v1.b (v1.o + (v5 : Int).toNat * 2) [.int .i64 x17, .int .i64 x18]).bind fun H22 =>
      kt3 v1 v2 v3 (w64 (v4 + 1)) (w64 (v5 - 1)) H22))))))
noncomputable def r121_l6 (app : App) (kt3 : Sl → Int → AV → Int → Int → Hp → Option ((Int × Bool) × Hp)) : Nat → Sl → Int → AV → Int → Int → Hp → Option ((Int × Bool) × Hp)
  | 0, _, _, _, _, _, _ => none
  | k_ + 1, v1, v2, v3, v4, v5, H => if v4 ≤ v5 then
    (ck ((0 : Int) ≤ v5 ∧ v5 < (v1.len : Int)) (
    (H.ldI .i64 v1.b (v1.o + (v5 : Int).toNat * 2)).bind fun x3 =>
    (H.ldI .i64 v1.b ((v1.o + (v5 : Int).toNat * 2) + 1)).bind fun x4 =>
    ck ((0 : Int) ≤ v2 ∧ v2 < (v1.len : Int)) (
    (H.ldI .i64 v1.b (v1.o + (v2 : Int).toNat * 2)).bind fun x6 =>
    (H.ldI .i64 v1.b ((v1.o + (v2 : Int).toNat * 2) + 1)).bind fun x7 =>
    (callv app v3 [.agg [.int .i64 x3, .int .i64 x4], .agg [.int .i64 x6, .int .i64 x7]] H).bind fun p8 =>
    (p8.1.asI .i64).bind fun x9 =>
    r121_j8 app kt3 (fun v1_ v2_ v3_ v4_ v5_ H_ => r121_l6 app kt3 k_ v1_ v2_ v3_ v4_ v5_ H_) v1 v2 v3 v4 v5 (!(decide (x9 < 0))) p8.2)))
  else
    (r121_j8 app kt3 (fun v1_ v2_ v3_ v4_ v5_ H_ => r121_l6 app kt3 k_ v1_ v2_ v3_ v4_ v5_ H_) v1 v2 v3 v4 v5 false H)
noncomputable def r121_j7 (app : App) (kt3 : Sl → Int → AV → Int → Int → Hp → Option ((Int × Bool) × Hp)) (kt5 : Sl → Int → AV → Int → Int → Hp → Option ((Int × Bool) × Hp)) (v1 : Sl) (v2 : Int) (v3 : AV) (v4 : Int) (v5 : Int) (v6 : Bool) (H : Hp) : Option ((Int × Bool) × Hp) :=
  if v6 = true then
    (kt5 v1 v2 v3 (w64 (v4 + 1)) v5 H)
  else
    (r121_l6 app kt3 FUEL v1 v2 v3 v4 v5 H)
noncomputable def r121_l5 (app : App) (kt3 : Sl → Int → AV → Int → Int → Hp → Option ((Int × Bool) × Hp)) : Nat → Sl → Int → AV → Int → Int → Hp → Option ((Int × Bool) × Hp)
  | 0, _, _, _, _, _, _ => none
  | k_ + 1, v1, v2, v3, v4, v5, H => if v4 ≤ v5 then
    (ck ((0 : Int) ≤ v4 ∧ v4 < (v1.len : Int)) (
    (H.ldI .i64 v1.b (v1.o + (v4 : Int).toNat * 2)).bind fun x3 =>
    (H.ldI .i64 v1.b ((v1.o + (v4 : Int).toNat * 2) + 1)).bind fun x4 =>
    ck ((0 : Int) ≤ v2 ∧ v2 < (v1.len : Int)) (
    (H.ldI .i64 v1.b (v1.o + (v2 : Int).toNat * 2)).bind fun x6 =>
    (H.ldI .i64 v1.b ((v1.o + (v2 : Int).toNat * 2) + 1)).bind fun x7 =>
    (callv app v3 [.agg [.int .i64 x3, .int .i64 x4], .agg [.int .i64 x6, .int .i64 x7]] H).bind fun p8 =>
    (p8.1.asI .i64).bind fun x9 =>
    r121_j7 app kt3 (fun v1_ v2_ v3_ v4_ v5_ H_ => r121_l5 app kt3 k_ v1_ v2_ v3_ v4_ v5_ H_) v1 v2 v3 v4 v5 (decide (x9 < 0)) p8.2)))
  else
    (r121_j7 app kt3 (fun v1_ v2_ v3_ v4_ v5_ H_ => r121_l5 app kt3 k_ v1_ v2_ v3_ v4_ v5_ H_) v1 v2 v3 v4 v5 false H)
noncomputable def r121_l3 (app : App) : Nat → Sl → Int → AV → Int → Int → Hp → Option ((Int × Bool) × Hp)
  | 0, _, _, _, _, _, _ => none
  | k_ + 1, v1, v2, v3, v4, v5, H => r121_l5 app (fun v1_ v2_ v3_ v4_ v5_ H_ => r121_l3 app k_ v1_ v2_ v3_ v4_ v5_ H_) FUEL v1 v2 v3 v4 v5 H
noncomputable def r121_j4 (app : App) (kt1 : Sl → Int → AV → Int → Int → Hp → Option ((Int × Bool) × Hp)) (v1 : Sl) (v2 : Int) (v3 : AV) (v4 : Int) (v5 : Int) (v6 : Bool) (H : Hp) : Option ((Int × Bool) × Hp) :=
  if v6 = true then
    (kt1 v1 v2 v3 v4 (w64 (v5 - 1)) H)
  else
    (if v5 < v4 then
      (ck ((0 : Int) ≤ v2 ∧ v2 < (v1.len : Int)) (
      (H.ldI .i64 v1.b (v1.o + (v2 : Int).toNat * 2)).bind fun x4 =>
      (H.ldI .i64 v1.b ((v1.o + (v2 : Int).toNat * 2) + 1)).bind fun x5 =>
      ck ((0 : Int) ≤ v5 ∧ v5 < (v1.len : Int)) (
      (H.ldI .i64 v1.b (v1.o + (v5 : Int).toNat * 2)).bind fun x7 =>
      (H.ldI .i64 v1.b ((v1.o + (v5 : Int).toNat * 2) + 1)).bind fun x8 =>
      ck ((0 : Int) ≤ v5 ∧ v5 < (v1.len : Int)) (
      (H.sts v1.b (v1.o + (v5 : Int).toNat * 2) [.int .i64 x4, .int .i64 x5]).bind fun H10 =>
      ck ((0 : Int) ≤ v2 ∧ v2 < (v1.len : Int)) (
      (H10.sts v1.b (v1.o + (v2 : Int).toNat * 2) [.int .i64 x7, .int .i64 x8]).bind fun H12 =>
      some ((v5, true), H12))))))
    else
      (ck ((0 : Int) ≤ v5 ∧ v5 < (v1.len : Int)) (
      (H.ldI .i64 v1.b (v1.o + (v5 : Int).toNat * 2)).bind fun x14 =>
      (H.ldI .i64 v1.b ((v1.o + (v5 : Int).toNat * 2) + 1)).bind fun x15 =>
      ck ((0 : Int) ≤ v4 ∧ v4 < (v1.len : Int)) (
      (H.ldI .i64 v1.b (v1.o + (v4 : Int).toNat * 2)).bind fun x17 =>
      (H.ldI .i64 v1.b ((v1.o + (v4 : Int).toNat * 2) + 1)).bind fun x18 =>
      ck ((0 : Int) ≤ v4 ∧ v4 < (v1.len : Int)) (
      (H.sts v1.b (v1.o + (v4 : Int).toNat * 2) [.int .i64 x14, .int .i64 x15]).bind fun H20 =>
      ck ((0 : Int) ≤ v5 ∧ v5 < (v1.len : Int)) (
      (H20.sts v1.b (v1.o + (v5 : Int).toNat * 2) [.int .i64 x17, .int .i64 x18]).bind fun H22 =>
      r121_l3 app FUEL v1 v2 v3 (w64 (v4 + 1)) (w64 (v5 - 1)) H22))))))
noncomputable def r121_l1 (app : App) : Nat → Sl → Int → AV → Int → Int → Hp → Option ((Int × Bool) × Hp)
  | 0, _, _, _, _, _, _ => none
  | k_ + 1, v1, v2, v3, v4, v5, H => if v4 ≤ v5 then
    (ck ((0 : Int) ≤ v5 ∧ v5 < (v1.len : Int)) (
    (H.ldI .i64 v1.b (v1.o + (v5 : Int).toNat * 2)).bind fun x3 =>
    (H.ldI .i64 v1.b ((v1.o + (v5 : Int).toNat * 2) + 1)).bind fun x4 =>
    ck ((0 : Int) ≤ v2 ∧ v2 < (v1.len : Int)) (
    (H.ldI .i64 v1.b (v1.o + (v2 : Int).toNat * 2)).bind fun x6 =>
    (H.ldI .i64 v1.b ((v1.o + (v2 : Int).toNat * 2) + 1)).bind fun x7 =>
    (callv app v3 [.agg [.int .i64 x3, .int .i64 x4], .agg [.int .i64 x6, .int .i64 x7]] H).bind fun p8 =>
    (p8.1.asI .i64).bind fun x9 =>
    r121_j4 app (fun v1_ v2_ v3_ v4_ v5_ H_ => r121_l1 app k_ v1_ v2_ v3_ v4_ v5_ H_) v1 v2 v3 v4 v5 (!(decide (x9 < 0))) p8.2)))
  else
    (r121_j4 app (fun v1_ v2_ v3_ v4_ v5_ H_ => r121_l1 app k_ v1_ v2_ v3_ v4_ v5_ H_) v1 v2 v3 v4 v5 false H)
noncomputable def r121_j2 (app : App) (kt0 : Sl → Int → AV → Int → Int → Hp → Option ((Int × Bool) × Hp)) (v1 : Sl) (v2 : Int) (v3 : AV) (v4 : Int) (v5 : Int) (v6 : Bool) (H : Hp) : Option ((Int × Bool) × Hp) :=
  if v6 = true then
    (kt0 v1 v2 v3 (w64 (v4 + 1)) v5 H)
  else
    (r121_l1 app FUEL v1 v2 v3 v4 v5 H)
noncomputable def r121_l0 (app : App) : Nat → Sl → Int → AV → Int → Int → Hp → Option ((Int × Bool) × Hp)
  | 0, _, _, _, _, _, _ => none
  | k_ + 1, v1, v2, v3, v4, v5, H => if v4 ≤ v5 then
    (ck ((0 : Int) ≤ v4 ∧ v4 < (v1.len : Int)) (
    (H.ldI .i64 v1.b (v1.o + (v4 : Int).toNat * 2)).bind fun x3 =>
    (H.ldI .i64 v1.b ((v1.o + (v4 : Int).toNat * 2) + 1)).bind fun x4 =>
    ck ((0 : Int) ≤ v2 ∧ v2 < (v1.len : Int)) (
    (H.ldI .i64 v1.b (v1.o + (v2 : Int).toNat * 2)).bind fun x6 =>
    (H.ldI .i64 v1.b ((v1.o + (v2 : Int).toNat * 2) + 1)).bind fun x7 =>
    (callv app v3 [.agg [.int .i64 x3, .int .i64 x4], .agg [.int .i64 x6, .int .i64 x7]] H).bind fun p8 =>
    (p8.1.asI .i64).bind fun x9 =>
    r121_j2 app (fun v1_ v2_ v3_ v4_ v5_ H_ => r121_l0 app k_ v1_ v2_ v3_ v4_ v5_ H_) v1 v2 v3 v4 v5 (decide (x9 < 0)) p8.2)))
  else
    (r121_j2 app (fun v1_ v2_ v3_ v4_ v5_ H_ => r121_l0 app k_ v1_ v2_ v3_ v4_ v5_ H_) v1 v2 v3 v4 v5 false H)
noncomputable def r121 (app : App) (a0 : Sl) (a1 : Int) (a2 : Int) (a3 : Int) (a4 : AV) (H : Hp) : Option ((Int × Bool) × Hp) :=
  ck ((0 : Int) ≤ a3 ∧ a3 < (a0.len : Int)) (
  (H.ldI .i64 a0.b (a0.o + (a3 : Int).toNat * 2)).bind fun x2 =>
  (H.ldI .i64 a0.b ((a0.o + (a3 : Int).toNat * 2) + 1)).bind fun x3 =>
  ck ((0 : Int) ≤ a1 ∧ a1 < (a0.len : Int)) (
  (H.ldI .i64 a0.b (a0.o + (a1 : Int).toNat * 2)).bind fun x5 =>
  (H.ldI .i64 a0.b ((a0.o + (a1 : Int).toNat * 2) + 1)).bind fun x6 =>
  ck ((0 : Int) ≤ a1 ∧ a1 < (a0.len : Int)) (
  (H.sts a0.b (a0.o + (a1 : Int).toNat * 2) [.int .i64 x2, .int .i64 x3]).bind fun H8 =>
  ck ((0 : Int) ≤ a3 ∧ a3 < (a0.len : Int)) (
  (H8.sts a0.b (a0.o + (a3 : Int).toNat * 2) [.int .i64 x5, .int .i64 x6]).bind fun H10 =>
  r121_l0 app FUEL a0 a1 a4 (w64 (a1 + 1)) (w64 (a2 - 1)) H10))))
/- 104 slices.pdqsortCmpFunc[[2]int] -/
def ret104 : Unit → AV := fun _ => .tup []
noncomputable def r104_j1 (app : App) (kt0 : Sl → Int → Int → Int → AV → Bool → Bool → Hp → Option (Unit × Hp)) (v1 : Sl) (v2 : Int) (v3 : Int) (v4 : Int) (v5 : AV) (v6 : Bool) (v7 : Bool) (v8 : Int) (v9 : Int) (v10 : Bool) (H : Hp) : Option (Unit × Hp) :=
  if v10 = true then
    ((r120 app v1 v2 v3 v9 v5 H).bind fun p2 =>
    kt0 v1 p2.1 v3 v4 v5 v6 v7 p2.2)
  else
    ((r121 app v1 v2 v3 v9 v5 H).bind fun p3 =>
    if (w64 (p3.1.1 - v2)) < (w64 (v3 - p3.1.1)) then
      ((app 104 [.sl v1, .int .i64 v2, .int .i64 p3.1.1, .int .i64 v4, v5] p3.2).bind fun p5 =>
      kt0 v1 (w64 (p3.1.1 + 1)) v3 v4 v5 (decide ((w64 (Int.tdiv v8 8)) ≤ (w64 (p3.1.1 - v2)))) p3.1.2 p5.2)
    else
      ((app 104 [.sl v1, .int .i64 (w64 (p3.1.1 + 1)), .int .i64 v3, .int .i64 v4, v5] p3.2).bind fun p6 =>
      kt0 v1 v2 p3.1.1 v4 v5 (decide ((w64 (Int.tdiv v8 8)) ≤ (w64 (v3 - p3.1.1)))) p3.1.2 p6.2))
noncomputable def r104_j2 (app : App) (kt0 : Sl → Int → Int → Int → AV → Bool → Bool → Hp → Option (Unit × Hp)) (v1 : Sl) (v2 : Int) (v3 : Int) (v4 : Int) (v5 : AV) (v6 : Bool) (v7 : Bool) (v8 : Int) (v9 : Int) (H : Hp) : Option (Unit × Hp) :=
  if 0 < v2 then
    (ck ((0 : Int) ≤ (w64 (v2 - 1)) ∧ (w64 (v2 - 1)) < (v1.len : Int)) (
    (H.ldI .i64 v1.b (v1.o + (w64 (v2 - 1) : Int).toNat * 2)).bind fun x3 =>
    (H.ldI .i64 v1.b ((v1.o + (w64 (v2 - 1) : Int).toNat * 2) + 1)).bind fun x4 =>
    ck ((0 : Int) ≤ v9 ∧ v9 < (v1.len : Int)) (
    (H.ldI .i64 v1.b (v1.o + (v9 : Int).toNat * 2)).bind fun x6 =>
    (H.ldI .i64 v1.b ((v1.o + (v9 : Int).toNat * 2) + 1)).bind fun x7 =>
    (callv app v5 [.agg [.int .i64 x3, .int .i64 x4], .agg [.int .i64 x6, .int .i64 x7]] H).bind fun p8 =>
    (p8.1.asI .i64).bind fun x9 =>
    r104_j1 app kt0 v1 v2 v3 v4 v5 v6 v7 v8 v9 (!(decide (x9 < 0))) p8.2)))
  else
    (r104_j1 app kt0 v1 v2 v3 v4 v5 v6 v7 v8 v9 false H)
noncomputable def r104_j3 (app : App) (kt0 : Sl → Int → Int → Int → AV → Bool → Bool → Hp → Option (Unit × Hp)) (v1 : Sl) (v2 : Int) (v3 : Int) (v4 : Int) (v5 : AV) (v6 : Bool) (v7 : Bool) (v8 : Int) (v9 : Int) (v10 : Bool) (H : Hp) : Option (Unit × Hp) :=
  if v10 = true then
    ((r119 app v1 v2 v3 v5 H).bind fun p2 =>
    if p2.1 = true then
      (some ((), p2.2))
    else
      (r104_j2 app kt0 v1 v2 v3 v4 v5 v6 v7 v8 v9 p2.2))
  else
    (r104_j2 app kt0 v1 v2 v3 v4 v5 v6 v7 v8 v9 H)
noncomputable def r104_j4 (app : App) (kt0 : Sl → Int → Int → Int → AV → Bool → Bool → Hp → Option (Unit × Hp)) (v1 : Sl) (v2 : Int) (v3 : Int) (v4 : Int) (v5 : AV) (v6 : Bool) (v7 : Bool) (v8 : Int) (v9 : Int) (v10 : Int) (H : Hp) : Option (Unit × Hp) :=
  if v6 = true then
    (if v7 = true then
      (r104_j3 app kt0 v1 v2 v3 v4 v5 true true v8 v9 (decide (v10 = 1)) H)
    else
      (r104_j3 app kt0 v1 v2 v3 v4 v5 true false v8 v9 false H))
  else
    (r104_j3 app kt0 v1 v2 v3 v4 v5 false v7 v8 v9 false H)
noncomputable def r104_j5 (app : App) (kt0 : Sl → Int → Int → Int → AV → Bool → Bool → Hp → Option (Unit × Hp)) (v1 : Sl) (v2 : Int) (v3 : Int) (v4 : Int) (v5 : AV) (v6 : Bool) (v7 : Bool) (v8 : Int) (H : Hp) : Option (Unit × Hp) :=
  (r117 app v1 v2 v3 v5 H).bind fun p1 =>
  if p1.1.2 = 2 then
    ((r118 v1 v2 v3 v5 p1.2).bind fun p3 =>
    r104_j4 app kt0 v1 v2 v3 v4 v5 v6 v7 v8 (w64 ((w64 (v3 - 1)) - (w64 (p1.1.1 - v2)))) 1 p3.2)
  else
    (r104_j4 app kt0 v1 v2 v3 v4 v5 v6 v7 v8 p1.1.1 p1.1.2 p1.2)
noncomputable def r104_l0 (app : App) : Nat → Sl → Int → Int → Int → AV → Bool → Bool → Hp → Option (Unit × Hp)
  | 0, _, _, _, _, _, _, _, _ => none
  | k_ + 1, v1, v2, v3, v4, v5, v6, v7, H => if (w64 (v3 - v2)) ≤ 12 then
    ((r114 app v1 v2 v3 v5 H).bind fun p2 =>
    some ((), p2.2))
  else
    (if v4 = 0 then
      ((r115 app v1 v2 v3 v5 H).bind fun p4 =>
      some ((), p4.2))
    else
      (if v6 = true then
        (r104_j5 app (fun v1_ v2_ v3_ v4_ v5_ v6_ v7_ H_ => r104_l0 app k_ v1_ v2_ v3_ v4_ v5_ v6_ v7_ H_) v1 v2 v3 v4 v5 true v7 (w64 (v3 - v2)) H)
      else
        ((r116 v1 v2 v3 v5 H).bind fun p6 =>
        r104_j5 app (fun v1_ v2_ v3_ v4_ v5_ v6_ v7_ H_ => r104_l0 app k_ v1_ v2_ v3_ v4_ v5_ v6_ v7_ H_) v1 v2 v3 (w64 (v4 - 1)) v5 false v7 (w64 (v3 - v2)) p6.2)))
noncomputable def r104 (app : App) (a0 : Sl) (a1 : Int) (a2 : Int) (a3 : Int) (a4 : AV) (H : Hp) : Option (Unit × Hp) :=
  r104_l0 app FUEL a0 a1 a2 a3 a4 true true H
/- 66 slices.SortFunc[[][2]int,[2]int] -/
def ret66 : Unit → AV := fun _ => .tup []
noncomputable def r66 (app : App) (a0 : Sl) (a1 : AV) (H : Hp) : Option (Unit × Hp) :=
  (r105 (IntKind.wrap .u64 ((a0.len : Int))) H).bind fun p1 =>
  (r104 app a0 0 (a0.len : Int) p1.1 a1 p1.2).bind fun p2 =>
  some ((), p2.2)
/- 50 slices.Compare[[]int,int] -/
def ret50 : Int → AV := fun r => .int .i64 r
noncomputable def r50_l0 : Nat → Sl → Sl → Sl → Int → Int → Hp → Option (Int × Hp)
  | 0, _, _, _, _, _, _ => none
  | k_ + 1, v1, v2, v3, v4, v5, H => if v5 < v4 then
    (ck ((0 : Int) ≤ v5 ∧ v5 < (v3.len : Int)) (
    (H.ldI .i64 v3.b (v3.o + (v5 : Int).toNat * 1)).bind fun x3 =>
    if (v2.len : Int) ≤ v5 then
      (some (1, H))
    else
      (ck ((0 : Int) ≤ v5 ∧ v5 < (v2.len : Int)) (
      (H.ldI .i64 v2.b (v2.o + (v5 : Int).toNat * 1)).bind fun x6 =>
      (r87 x3 x6 H).bind fun p7 =>
      if p7.1 ≠ 0 then
        (some (p7.1, p7.2))
      else
        (r50_l0 k_ v1 v2 v3 v4 (w64 (v5 + 1)) p7.2)))))
  else
    (if (v1.len : Int) < (v2.len : Int) then
      (some ((-1), H))
    else
      (some (0, H)))
noncomputable def r50 (a0 : Sl) (a1 : Sl) (H : Hp) : Option (Int × Hp) :=
  r50_l0 FUEL a0 a1 a0 (a0.len : Int) 0 H
/- 67 congou/congoulaw08.PairsRenamed$1 -/
def ret67 : Int → AV := fun r => .int .i64 r
noncomputable def r67 (a0_0 : Int) (a0_1 : Int) (a1_0 : Int) (a1_1 : Int) (H : Hp) : Option (Int × Hp) :=
  lt ((H.push (.cells [.int .i64 a0_0, .int .i64 a0_1] false)).push (.cells [.int .i64 a1_0, .int .i64 a1_1] false)) fun H1 =>
  (r50 ⟨false, H.n, 0 + (0 : Int).toNat * 1, (((2 : Nat) : Int) : Int).toNat - (0 : Int).toNat, 2 - (0 : Int).toNat, 0⟩ ⟨false, (H.push (.cells [.int .i64 a0_0, .int .i64 a0_1] false)).n, 0 + (0 : Int).toNat * 1, (((2 : Nat) : Int) : Int).toNat - (0 : Int).toNat, 2 - (0 : Int).toNat, 0⟩ H1).bind fun p2 =>
  some (p2.1, p2.2)
/- 17 congou/congoulaw08.PairsRenamed -/
def ret17 : Bool → AV := fun r => .bool r
noncomputable def r17_l3 (app : App) (kt1 : Int → Sl → Sl → Sl → Int → Int → Hp → Option (Bool × Hp)) : Nat → Int → Sl → Sl → Sl → Sl → Int → Int → Sl → Int → Int → Hp → Option (Bool × Hp)
  | 0, _, _, _, _, _, _, _, _, _, _, _ => none
  | k_ + 1, v1, v2, v3, v4, v5, v6, v7, v8, v9, v10, H => if v10 < v9 then
    (ck ((0 : Int) ≤ v10 ∧ v10 < (v8.len : Int)) (
    (H.ldI .i64 v8.b (v8.o + (v10 : Int).toNat * 2)).bind fun x3 =>
    (H.ldI .i64 v8.b ((v8.o + (v10 : Int).toNat * 2) + 1)).bind fun x4 =>
    ((H.push (.cells [.int .i64 0, .int .i64 0] false)).sts H.n 0 [.int .i64 x3, .int .i64 x4]).bind fun H5 =>
    (H5.ldI .i64 H.n (0 + (0 : Int).toNat * 1)).bind fun x6 =>
    ck ((0 : Int) ≤ x6 ∧ x6 < (v2.len : Int)) (
    (H5.ldI .i64 v2.b (v2.o + (x6 : Int).toNat * 1)).bind fun x8 =>
    (H5.ldI .i64 H.n (0 + (1 : Int).toNat * 1)).bind fun x9 =>
    ck ((0 : Int) ≤ x9 ∧ x9 < (v2.len : Int)) (
    (H5.ldI .i64 v2.b (v2.o + (x9 : Int).toNat * 1)).bind fun x11 =>
    ck ((0 : Int) ≤ v10 ∧ v10 < (v4.len : Int)) (
    (H5.sts v4.b (v4.o + (v10 : Int).toNat * 2) [.int .i64 (if x11 < x8 then x11 else x8), .int .i64 (if x8 < x11 then x11 else x8)]).bind fun H13 =>
    r17_l3 app kt1 k_ v1 v2 v3 v4 v5 v6 v7 v8 v9 (w64 (v10 + 1)) H13)))))
  else
    ((r66 app v4 (.fn 67 [] []) H).bind fun p14 =>
    kt1 v1 v2 v3 v5 v6 (w64 (v7 + 1)) p14.2)
noncomputable def r17_l1 (app : App) : Nat → Int → Sl → Sl → Sl → Int → Int → Hp → Option (Bool × Hp)
  | 0, _, _, _, _, _, _, _ => none
  | k_ + 1, v1, v2, v3, v4, v5, v6, H => if v6 < v5 then
    (ck ((0 : Int) ≤ v6 ∧ v6 < (v4.len : Int)) (
    (H.ldSl v4.b (v4.o + (v6 : Int).toNat * 1)).bind fun x3 =>
    r17_l3 app (fun v1_ v2_ v3_ v4_ v5_ v6_ H_ => r17_l1 app k_ v1_ v2_ v3_ v4_ v5_ v6_ H_) FUEL v1 v2 v3 x3 v4 v5 v6 x3 (x3.len : Int) 0 H))
  else
    ((r62 app v1 v3 H).bind fun p4 =>
    if p4.1.1 = true then
      (if p4.1.2 = 0 then
        ((r23 app p4.2).bind fun p7 =>
        some (p7.1, p7.2))
      else
        (some (false, p4.2)))
    else
      (some (false, p4.2)))
noncomputable def r17_j2 (app : App) (v1 : Int) (v2 : Sl) (v3 : Sl) (v4 : Bool) (v5 : Bool) (H : Hp) : Option (Bool × Hp) :=
  if v5 = true then
    ((r64 v1 v2 H).bind fun p2 =>
    if (v4 == p2.1) = true then
      ((r23 app p2.2).bind fun p4 =>
      some (p4.1, p4.2))
    else
      (some (false, p2.2)))
  else
    ((r63 v2 H).bind fun p5 =>
    r17_l1 app FUEL v1 v3 p5.1 p5.1 (p5.1.len : Int) 0 p5.2)
noncomputable def r17_j0 (app : App) (v1 : Int) (v2 : Sl) (v3 : Sl) (v4 : Bool) (v5 : Int) (v6 : Bool) (H : Hp) : Option (Bool × Hp) :=
  if v6 = true then
    (if v5 = 2 then
      ((r23 app H).bind fun p3 =>
      some (p3.1, p3.2))
    else
      (some (false, H)))
  else
    (if v4 = true then
      ((r64 v1 v2 H).bind fun p5 =>
      if p5.1 = true then
        ((r65 v3 (w64 (2 * v1)) p5.2).bind fun p7 =>
        r17_j2 app v1 v2 v3 true (!p7.1) p7.2)
      else
        (r17_j2 app v1 v2 v3 true true p5.2))
    else
      (r17_j2 app v1 v2 v3 false true H))
noncomputable def r17 (app : App) (a0 : Int) (a1 : Sl) (a2 : Sl) (H : Hp) : Option (Bool × Hp) :=
  (r63 a1 H).bind fun p1 =>
  (r62 app a0 p1.1 p1.2).bind fun p2 =>
  if p2.1.2 ≠ 0 then
    (r17_j0 app a0 a1 a2 p2.1.1 p2.1.2 true p2.2)
  else
    (if a0 < 1 then
      (r17_j0 app a0 a1 a2 p2.1.1 p2.1.2 true p2.2)
    else
      (r17_j0 app a0 a1 a2 p2.1.1 p2.1.2 (decide (4 < a0)) p2.2))
/- 36 slices.Clone[[]int,int] -/
def ret36 : Sl → AV := fun r => .sl r
noncomputable def r36 (a0 : Sl) (H : Hp) : Option (Sl × Hp) :=
  if a0.nil = true then
    (some (⟨true, 0, 0, 0, 0, 0⟩, H))
  else
    (((H.push (.cells [] false)).lds a0.b a0.o (a0.len * 1)).bind fun x2 =>
    ck (x2.all AV.one = true) (
    ((H.push (.cells [] false)).app 1 ⟨false, H.n, 0, 0, 0, 0⟩ x2 a0.len).bind fun x4 =>
    some (x4.1, x4.2)))
/- 74 congou/pairs.First$1 -/
def ret74 : Bool → AV := fun r => .bool r
noncomputable def r74 (a0 : Sl) (c0 : Nat) (H : Hp) : Option (Bool × Hp) :=
  (r36 a0 H).bind fun p1 =>
  (p1.2.st c0 0 (.sl p1.1)).bind fun H2 =>
  some (false, H2)
/- 108 slices.Index[[]int,int] -/
def ret108 : Int → AV := fun r => .int .i64 r
noncomputable def r108_l0 : Nat → Sl → Int → Int → Int → Hp → Option (Int × Hp)
  | 0, _, _, _, _, _ => none
  | k_ + 1, v1, v2, v3, v4, H => if v4 < v3 then
    (ck ((0 : Int) ≤ v4 ∧ v4 < (v1.len : Int)) (
    (H.ldI .i64 v1.b (v1.o + (v4 : Int).toNat * 1)).bind fun x3 =>
    if v2 = x3 then
      (some (v4, H))
    else
      (r108_l0 k_ v1 v2 v3 (w64 (v4 + 1)) H)))
  else
    (some ((-1), H))
noncomputable def r108 (a0 : Sl) (a1 : Int) (H : Hp) : Option (Int × Hp) :=
  r108_l0 FUEL a0 a1 (a0.len : Int) 0 H
/- 107 congou/pairs.rows$1 -/
def ret107 : Bool → AV := fun r => .bool r
noncomputable def r107_j1 (app : App) (kt0 : Int → Nat → Nat → Nat → Nat → Int → Int → Hp → Option (Bool × Hp)) (v1 : Int) (v2 : Nat) (v3 : Nat) (v4 : Nat) (v5 : Nat) (v6 : Int) (v7 : Int) (v8 : Int) (v9 : Bool) (H : Hp) : Option (Bool × Hp) :=
  if v9 = true then
    (kt0 v1 v2 v3 v4 v5 v6 (w64 (v7 + 1)) H)
  else
    ((H.ldSl v2 0).bind fun x2 =>
    (H.ldSl v2 0).bind fun x3 =>
    ck ((0 : Int) ≤ v6 ∧ v6 < (x2.len : Int)) (
    (H.st x2.b (x2.o + (v6 : Int).toNat * 1) (.int .i64 v7)).bind fun H5 =>
    ck ((0 : Int) ≤ v8 ∧ v8 < (x3.len : Int)) (
    (H5.st x3.b (x3.o + (v8 : Int).toNat * 1) (.int .i64 v7)).bind fun H7 =>
    ck (H5.ldSl v2 0 = some x3) (
    ck (H7.ldSl v2 0 = some x3) (
    (H7.ldV v5 0).bind fun x10 =>
    ck (¬ v7 < 0) (
    (callv app x10 [.int .i64 (bitsOf .or .i64 v1 (shlOf .i64 1 v7))] H7).bind fun p12 =>
    (p12.1.asB).bind fun x13 =>
    (p12.2.ldSl v2 0).bind fun x14 =>
    (p12.2.ldSl v2 0).bind fun x15 =>
    ck ((0 : Int) ≤ v6 ∧ v6 < (x14.len : Int)) (
    (p12.2.st x14.b (x14.o + (v6 : Int).toNat * 1) (.int .i64 0)).bind fun H17 =>
    ck ((0 : Int) ≤ v8 ∧ v8 < (x15.len : Int)) (
    (H17.st x15.b (x15.o + (v8 : Int).toNat * 1) (.int .i64 0)).bind fun H19 =>
    ck (H17.ldSl v2 0 = some x15) (
    ck (H19.ldSl v2 0 = some x15) (
    if x13 = true then
      (kt0 v1 v2 v3 v4 v5 v6 (w64 (v7 + 1)) H19)
    else
      (some (false, H19))))))))))))
noncomputable def r107_l0 (app : App) : Nat → Int → Nat → Nat → Nat → Nat → Int → Int → Hp → Option (Bool × Hp)
  | 0, _, _, _, _, _, _, _, _ => none
  | k_ + 1, v1, v2, v3, v4, v5, v6, v7, H => (H.ldI .i64 v3 0).bind fun x1 =>
  if v7 ≤ x1 then
    ((H.ldI .i64 v4 0).bind fun x3 =>
    ck (¬ v7 < 0) (
    if (bitsOf .and .i64 (shrOf .i64 v1 v7) 1) = 1 then
      (r107_j1 app (fun v1_ v2_ v3_ v4_ v5_ v6_ v7_ H_ => r107_l0 app k_ v1_ v2_ v3_ v4_ v5_ v6_ v7_ H_) v1 v2 v3 v4 v5 v6 v7 (w64 ((w64 ((w64 (v6 + v7)) + x3)) - 1)) true H)
    else
      ((H.ldSl v2 0).bind fun x6 =>
      if (x6.len : Int) ≤ (w64 ((w64 ((w64 (v6 + v7)) + x3)) - 1)) then
        (r107_j1 app (fun v1_ v2_ v3_ v4_ v5_ v6_ v7_ H_ => r107_l0 app k_ v1_ v2_ v3_ v4_ v5_ v6_ v7_ H_) v1 v2 v3 v4 v5 v6 v7 (w64 ((w64 ((w64 (v6 + v7)) + x3)) - 1)) true H)
      else
        ((H.ldSl v2 0).bind fun x8 =>
        ck ((0 : Int) ≤ (w64 ((w64 ((w64 (v6 + v7)) + x3)) - 1)) ∧ (w64 ((w64 ((w64 (v6 + v7)) + x3)) - 1)) < (x8.len : Int)) (
        (H.ldI .i64 x8.b (x8.o + (w64 ((w64 ((w64 (v6 + v7)) + x3)) - 1) : Int).toNat * 1)).bind fun x10 =>
        r107_j1 app (fun v1_ v2_ v3_ v4_ v5_ v6_ v7_ H_ => r107_l0 app k_ v1_ v2_ v3_ v4_ v5_ v6_ v7_ H_) v1 v2 v3 v4 v5 v6 v7 (w64 ((w64 ((w64 (v6 + v7)) + x3)) - 1)) (decide (x10 ≠ 0)) H)))))
  else
    (some (true, H))
noncomputable def r107 (app : App) (a0 : Int) (c0 : Nat) (c1 : Nat) (c2 : Nat) (c3 : Nat) (c4 : Nat) (H : Hp) : Option (Bool × Hp) :=
  (H.ldSl c0 0).bind fun x1 =>
  (r108 x1 0 H).bind fun p2 =>
  if p2.1 < 0 then
    ((p2.2.ldV c1 0).bind fun x4 =>
    (p2.2.ldSl c0 0).bind fun x5 =>
    (callv app x4 [.sl x5] p2.2).bind fun p6 =>
    (p6.1.asB).bind fun x7 =>
    some (x7, p6.2))
  else
    (r107_l0 app FUEL a0 c0 c2 c3 c4 p2.1 1 p2.2)
end Go.Lt.P8
