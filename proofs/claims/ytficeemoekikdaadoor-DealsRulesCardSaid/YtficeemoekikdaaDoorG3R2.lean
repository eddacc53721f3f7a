/- PRINTED BY A PROGRAM OF OURS: what each function that 'DealsRules' reaches computes on the abstract heap, and that the translated code does just that. Nothing is asked of the input. -/
import Derived.Test.YtficeemoekikdaaDoorG3R1
set_option linter.unusedVariables false
set_option linter.unusedSimpArgs false
set_option maxRecDepth 100000
set_option maxHeartbeats 4000000
namespace Go.Lt.P5
open Go Go.Lt Go.Proofs
/- 11 congou/congoulaw05.awake -/
def ret11 : Bool → AV := fun r => .bool r
noncomputable def r11 (app : App) (H : Hp) : Option (Bool × Hp) :=
  (r7 app ⟨false, H.n, 0, 2, 2, 0⟩ 0 0 (H.push (.cells [.int .i64 0, .int .i64 10, .int .i64 10, .int .i64 0] false))).bind fun p1 =>
  ((p1.2.push (.cells [.int .i64 0, .int .i64 0, .int .i64 0, .int .i64 0] false)).sts p1.2.n 0 [.int .i64 p1.1.1, .int .i64 p1.1.2.1, .int .i64 p1.1.2.2.1, .int .i64 p1.1.2.2.2.1]).bind fun H2 =>
  if p1.1.2.2.2.2 = 0 then
    ((H2.ldI .i64 p1.2.n 0).bind fun x4 =>
    (H2.ldI .i64 p1.2.n (0 + 1)).bind fun x5 =>
    (H2.ldI .i64 p1.2.n (0 + 2)).bind fun x6 =>
    (H2.ldI .i64 p1.2.n (0 + 3)).bind fun x7 =>
    some ((((x4 == 5) && (x5 == 1)) && ((x6 == 5) && (x7 == 1))), H2))
  else
    (some (false, H2))
/- 12 congou/congoulaw05.own -/
def ret12 : Int × Int × Int × Int → AV := fun r => .agg [.int .i64 r.1, .int .i64 r.2.1, .int .i64 r.2.2.1, .int .i64 r.2.2.2]
noncomputable def r12 (a0_0 : Int) (a0_1 : Int) (a0_2 : Int) (a0_3 : Int) (H : Hp) : Option ((Int × Int × Int × Int) × Hp) :=
  lt ((H.push (.cells [.int .i64 a0_0, .int .i64 a0_1, .int .i64 a0_2, .int .i64 a0_3] false)).push (.cells [.int .i64 0, .int .i64 0, .int .i64 0, .int .i64 0] false)) fun H1 =>
  (H1.ldI .i64 H.n (0 + 0)).bind fun x2 =>
  (H1.ldI .i64 H.n ((0 + 0) + 1)).bind fun x3 =>
  (H1.ldI .i64 H.n (0 + 2)).bind fun x4 =>
  (H1.ldI .i64 H.n ((0 + 2) + 1)).bind fun x5 =>
  (H1.sts ((H.push (.cells [.int .i64 a0_0, .int .i64 a0_1, .int .i64 a0_2, .int .i64 a0_3] false)).n) 0 [.int .i64 x2, .int .i64 x3, .int .i64 x4, .int .i64 x5]).bind fun H6 =>
  (H6.ldI .i64 ((H.push (.cells [.int .i64 a0_0, .int .i64 a0_1, .int .i64 a0_2, .int .i64 a0_3] false)).n) 0).bind fun x7 =>
  (H6.ldI .i64 ((H.push (.cells [.int .i64 a0_0, .int .i64 a0_1, .int .i64 a0_2, .int .i64 a0_3] false)).n) (0 + 1)).bind fun x8 =>
  (H6.ldI .i64 ((H.push (.cells [.int .i64 a0_0, .int .i64 a0_1, .int .i64 a0_2, .int .i64 a0_3] false)).n) (0 + 2)).bind fun x9 =>
  (H6.ldI .i64 ((H.push (.cells [.int .i64 a0_0, .int .i64 a0_1, .int .i64 a0_2, .int .i64 a0_3] false)).n) (0 + 3)).bind fun x10 =>
  some ((x7, x8, x9, x10), H6)
/- 49 congou/congouref05.last -/
def ret49 : Bool → AV := fun r => .bool r
noncomputable def r49_j3 (kt1 : Sl → Nat → Nat → Sl → Int → Int → Sl → Int → Int → Hp → Option (Bool × Hp)) (v1 : Sl) (v2 : Nat) (v3 : Nat) (v4 : Sl) (v5 : Int) (v6 : Int) (v7 : Sl) (v8 : Int) (v9 : Int) (v10 : Bool) (H : Hp) : Option (Bool × Hp) :=
  if v10 = true then
    (some (false, H))
  else
    (kt1 v1 v2 v3 v4 v5 v6 v7 v8 (w64 (v9 + 1)) H)
noncomputable def r49_l1 (kt0 : Sl → Nat → Sl → Int → Int → Hp → Option (Bool × Hp)) : Nat → Sl → Nat → Nat → Sl → Int → Int → Sl → Int → Int → Hp → Option (Bool × Hp)
  | 0, _, _, _, _, _, _, _, _, _, _ => none
  | k_ + 1, v1, v2, v3, v4, v5, v6, v7, v8, v9, H => if v9 < v8 then
    (ck ((0 : Int) ≤ v9 ∧ v9 < (v7.len : Int)) (
    (H.ldI .i64 v7.b (v7.o + (v9 : Int).toNat * 2)).bind fun x3 =>
    (H.ldI .i64 v7.b ((v7.o + (v9 : Int).toNat * 2) + 1)).bind fun x4 =>
    ((H.push (.cells [.int .i64 0, .int .i64 0] false)).sts H.n 0 [.int .i64 x3, .int .i64 x4]).bind fun H5 =>
    (H5.ldI .i64 v3 (0 + (0 : Int).toNat * 1)).bind fun x6 =>
    (H5.ldI .i64 v2 (0 + (0 : Int).toNat * 1)).bind fun x7 =>
    if x6 < x7 then
      ((H5.ldI .i64 v2 (0 + (0 : Int).toNat * 1)).bind fun x9 =>
      (H5.ldI .i64 H.n (0 + (0 : Int).toNat * 1)).bind fun x10 =>
      if x9 < x10 then
        ((H5.ldI .i64 H.n (0 + (1 : Int).toNat * 1)).bind fun x12 =>
        (H5.ldI .i64 v3 (0 + (1 : Int).toNat * 1)).bind fun x13 =>
        (H5.ldI .i64 v2 (0 + (0 : Int).toNat * 1)).bind fun x14 =>
        (H5.ldI .i64 v3 (0 + (0 : Int).toNat * 1)).bind fun x15 =>
        (H5.ldI .i64 v2 (0 + (1 : Int).toNat * 1)).bind fun x16 =>
        (H5.ldI .i64 v3 (0 + (1 : Int).toNat * 1)).bind fun x17 =>
        (H5.ldI .i64 H.n (0 + (0 : Int).toNat * 1)).bind fun x18 =>
        (H5.ldI .i64 v3 (0 + (0 : Int).toNat * 1)).bind fun x19 =>
        r49_j3 (fun v1_ v2_ v3_ v4_ v5_ v6_ v7_ v8_ v9_ H_ => r49_l1 kt0 k_ v1_ v2_ v3_ v4_ v5_ v6_ v7_ v8_ v9_ H_) v1 v2 v3 v4 v5 v6 v7 v8 v9 (decide ((w64 ((w64 (x16 - x17)) * (w64 (x18 - x19)))) < (w64 ((w64 (x12 - x13)) * (w64 (x14 - x15)))))) H5)
      else
        (r49_j3 (fun v1_ v2_ v3_ v4_ v5_ v6_ v7_ v8_ v9_ H_ => r49_l1 kt0 k_ v1_ v2_ v3_ v4_ v5_ v6_ v7_ v8_ v9_ H_) v1 v2 v3 v4 v5 v6 v7 v8 v9 false H5))
    else
      (r49_j3 (fun v1_ v2_ v3_ v4_ v5_ v6_ v7_ v8_ v9_ H_ => r49_l1 kt0 k_ v1_ v2_ v3_ v4_ v5_ v6_ v7_ v8_ v9_ H_) v1 v2 v3 v4 v5 v6 v7 v8 v9 false H5)))
  else
    (kt0 v1 v2 v4 v5 (w64 (v6 + 1)) H)
noncomputable def r49_j2 (kt0 : Sl → Nat → Sl → Int → Int → Hp → Option (Bool × Hp)) (v1 : Sl) (v2 : Nat) (v3 : Nat) (v4 : Sl) (v5 : Int) (v6 : Int) (v7 : Bool) (H : Hp) : Option (Bool × Hp) :=
  if v7 = true then
    (some (false, H))
  else
    (r49_l1 kt0 FUEL v1 v2 v3 v4 v5 v6 v1 (v1.len : Int) 0 H)
noncomputable def r49_l0 : Nat → Sl → Nat → Sl → Int → Int → Hp → Option (Bool × Hp)
  | 0, _, _, _, _, _, _ => none
  | k_ + 1, v1, v2, v3, v4, v5, H => if v5 < v4 then
    (ck ((0 : Int) ≤ v5 ∧ v5 < (v3.len : Int)) (
    (H.ldI .i64 v3.b (v3.o + (v5 : Int).toNat * 2)).bind fun x3 =>
    (H.ldI .i64 v3.b ((v3.o + (v5 : Int).toNat * 2) + 1)).bind fun x4 =>
    ((H.push (.cells [.int .i64 0, .int .i64 0] false)).sts H.n 0 [.int .i64 x3, .int .i64 x4]).bind fun H5 =>
    (H5.ldI .i64 H.n 0).bind fun x6 =>
    (H5.ldI .i64 H.n (0 + 1)).bind fun x7 =>
    (H5.ldI .i64 v2 0).bind fun x8 =>
    (H5.ldI .i64 v2 (0 + 1)).bind fun x9 =>
    if (AV.keqs [.int .i64 x6, .int .i64 x7] [.int .i64 x8, .int .i64 x9]) = true then
      (r49_j2 (fun v1_ v2_ v3_ v4_ v5_ H_ => r49_l0 k_ v1_ v2_ v3_ v4_ v5_ H_) v1 v2 H.n v3 v4 v5 false H5)
    else
      ((H5.ldI .i64 H.n (0 + (0 : Int).toNat * 1)).bind fun x11 =>
      (H5.ldI .i64 v2 (0 + (0 : Int).toNat * 1)).bind fun x12 =>
      if x12 ≤ x11 then
        ((H5.ldI .i64 H.n (0 + (1 : Int).toNat * 1)).bind fun x14 =>
        (H5.ldI .i64 v2 (0 + (1 : Int).toNat * 1)).bind fun x15 =>
        r49_j2 (fun v1_ v2_ v3_ v4_ v5_ H_ => r49_l0 k_ v1_ v2_ v3_ v4_ v5_ H_) v1 v2 H.n v3 v4 v5 (decide (x15 ≤ x14)) H5)
      else
        (r49_j2 (fun v1_ v2_ v3_ v4_ v5_ H_ => r49_l0 k_ v1_ v2_ v3_ v4_ v5_ H_) v1 v2 H.n v3 v4 v5 false H5))))
  else
    (some (true, H))
noncomputable def r49 (a0 : Sl) (a1_0 : Int) (a1_1 : Int) (H : Hp) : Option (Bool × Hp) :=
  lt (H.push (.cells [.int .i64 a1_0, .int .i64 a1_1] false)) fun H1 =>
  r49_l0 FUEL a0 H.n a0 (a0.len : Int) 0 H1
/- 31 congou/congouref05.Edge -/
def ret31 : Sl → AV := fun r => .sl r
noncomputable def r31_j3 (kt0 : Sl → Sl → Int → Hp → Option (Sl × Hp)) (v1 : Sl) (v2 : Sl) (v3 : Int) (v4 : Int) (v5 : Int) (v6 : Bool) (H : Hp) : Option (Sl × Hp) :=
  if v6 = true then
    ((H.apN 2 v2 [.int .i64 v3, .int .i64 v4] 1).bind fun x2 =>
    kt0 v1 x2.1 (w64 (v5 + 1)) x2.2)
  else
    (kt0 v1 v2 (w64 (v5 + 1)) H)
noncomputable def r31_l1 (kt0 : Sl → Sl → Int → Hp → Option (Sl × Hp)) : Nat → Sl → Sl → Int → Int → Int → Sl → Int → Int → Hp → Option (Sl × Hp)
  | 0, _, _, _, _, _, _, _, _, _ => none
  | k_ + 1, v1, v2, v3, v4, v5, v6, v7, v8, H => if v8 < v7 then
    (ck ((0 : Int) ≤ v8 ∧ v8 < (v6.len : Int)) (
    (H.ldI .i64 v6.b (v6.o + (v8 : Int).toNat * 2)).bind fun x3 =>
    (H.ldI .i64 v6.b ((v6.o + (v8 : Int).toNat * 2) + 1)).bind fun x4 =>
    ((H.push (.cells [.int .i64 0, .int .i64 0] false)).sts H.n 0 [.int .i64 x3, .int .i64 x4]).bind fun H5 =>
    (H5.ldI .i64 H.n (0 + (0 : Int).toNat * 1)).bind fun x6 =>
    if x6 = v3 then
      ((H5.ldI .i64 H.n (0 + (1 : Int).toNat * 1)).bind fun x8 =>
      r31_l1 kt0 k_ v1 v2 v3 (if v4 < x8 then x8 else v4) v5 v6 v7 (w64 (v8 + 1)) H5)
    else
      (r31_l1 kt0 k_ v1 v2 v3 v4 v5 v6 v7 (w64 (v8 + 1)) H5)))
  else
    (if 0 ≤ v4 then
      ((r49 v1 v3 v4 H).bind fun p10 =>
      r31_j3 kt0 v1 v2 v3 v4 v5 p10.1 p10.2)
    else
      (r31_j3 kt0 v1 v2 v3 v4 v5 false H))
noncomputable def r31_l5 (kt4 : Sl → Sl → Int → Nat → Bool → Sl → Int → Int → Sl → Int → Int → Hp → Option (Sl × Hp)) : Nat → Sl → Sl → Int → Nat → Bool → Nat → Sl → Int → Int → Sl → Int → Int → Sl → Int → Int → Hp → Option (Sl × Hp)
  | 0, _, _, _, _, _, _, _, _, _, _, _, _, _, _, _, _ => none
  | k_ + 1, v1, v2, v3, v4, v5, v6, v7, v8, v9, v10, v11, v12, v13, v14, v15, H => if v15 < v14 then
    (ck ((0 : Int) ≤ v15 ∧ v15 < (v13.len : Int)) (
    (H.ldI .i64 v13.b (v13.o + (v15 : Int).toNat * 2)).bind fun x3 =>
    (H.ldI .i64 v13.b ((v13.o + (v15 : Int).toNat * 2) + 1)).bind fun x4 =>
    ((H.push (.cells [.int .i64 0, .int .i64 0] false)).sts H.n 0 [.int .i64 x3, .int .i64 x4]).bind fun H5 =>
    if v5 = true then
      (r31_l5 kt4 k_ v1 v2 v3 v4 true v6 v7 v8 v9 v10 v11 v12 v13 v14 (w64 (v15 + 1)) H5)
    else
      ((H5.ldI .i64 H.n (0 + (0 : Int).toNat * 1)).bind fun x7 =>
      (H5.ldI .i64 v6 (0 + (0 : Int).toNat * 1)).bind fun x8 =>
      (H5.ldI .i64 v4 (0 + (1 : Int).toNat * 1)).bind fun x9 =>
      (H5.ldI .i64 v6 (0 + (1 : Int).toNat * 1)).bind fun x10 =>
      (H5.ldI .i64 H.n (0 + (1 : Int).toNat * 1)).bind fun x11 =>
      (H5.ldI .i64 v6 (0 + (1 : Int).toNat * 1)).bind fun x12 =>
      (H5.ldI .i64 v4 (0 + (0 : Int).toNat * 1)).bind fun x13 =>
      (H5.ldI .i64 v6 (0 + (0 : Int).toNat * 1)).bind fun x14 =>
      r31_l5 kt4 k_ v1 v2 v3 v4 (decide ((w64 ((w64 (x7 - x8)) * (w64 (x9 - x10)))) = (w64 ((w64 (x11 - x12)) * (w64 (x13 - x14)))))) v6 v7 v8 v9 v10 v11 v12 v13 v14 (w64 (v15 + 1)) H5)))
  else
    (kt4 v1 v2 v3 v4 v5 v7 v8 v9 v10 v11 (w64 (v12 + 1)) H)
noncomputable def r31_l4 (kt2 : Sl → Sl → Sl → Int → Int → Hp → Option (Sl × Hp)) : Nat → Sl → Sl → Int → Nat → Bool → Sl → Int → Int → Sl → Int → Int → Hp → Option (Sl × Hp)
  | 0, _, _, _, _, _, _, _, _, _, _, _, _ => none
  | k_ + 1, v1, v2, v3, v4, v5, v6, v7, v8, v9, v10, v11, H => if v11 < v10 then
    (ck ((0 : Int) ≤ v11 ∧ v11 < (v9.len : Int)) (
    (H.ldI .i64 v9.b (v9.o + (v11 : Int).toNat * 2)).bind fun x3 =>
    (H.ldI .i64 v9.b ((v9.o + (v11 : Int).toNat * 2) + 1)).bind fun x4 =>
    ((H.push (.cells [.int .i64 0, .int .i64 0] false)).sts H.n 0 [.int .i64 x3, .int .i64 x4]).bind fun H5 =>
    ck (((0 : Int) ≤ (w64 (v3 + 1)) ∧ (w64 (v3 + 1)) ≤ (v1.len : Int) ∧ (v1.len : Int) ≤ (v1.cap : Int)) ∧ (v1.opn = 0 ∨ v1.opn = 2)) (
    r31_l5 (fun v1_ v2_ v3_ v4_ v5_ v6_ v7_ v8_ v9_ v10_ v11_ H_ => r31_l4 kt2 k_ v1_ v2_ v3_ v4_ v5_ v6_ v7_ v8_ v9_ v10_ v11_ H_) FUEL v1 v2 v3 v4 v5 H.n v6 v7 v8 v9 v10 v11 (v1.cut 2 (w64 (v3 + 1) : Int).toNat ((v1.len : Int) : Int).toNat) ((v1.cut 2 (w64 (v3 + 1) : Int).toNat ((v1.len : Int) : Int).toNat).len : Int) 0 H5)))
  else
    (if v5 = true then
      (kt2 v1 v2 v6 v7 (w64 (v8 + 1)) H)
    else
      ((H.ldI .i64 v4 0).bind fun x8 =>
      (H.ldI .i64 v4 (0 + 1)).bind fun x9 =>
      (H.apN 2 v2 [.int .i64 x8, .int .i64 x9] 1).bind fun x10 =>
      kt2 v1 x10.1 v6 v7 (w64 (v8 + 1)) x10.2))
noncomputable def r31_l2 : Nat → Sl → Sl → Sl → Int → Int → Hp → Option (Sl × Hp)
  | 0, _, _, _, _, _, _ => none
  | k_ + 1, v1, v2, v3, v4, v5, H => if v5 < v4 then
    (ck ((0 : Int) ≤ v5 ∧ v5 < (v3.len : Int)) (
    (H.ldI .i64 v3.b (v3.o + (v5 : Int).toNat * 2)).bind fun x3 =>
    (H.ldI .i64 v3.b ((v3.o + (v5 : Int).toNat * 2) + 1)).bind fun x4 =>
    ((H.push (.cells [.int .i64 0, .int .i64 0] false)).sts H.n 0 [.int .i64 x3, .int .i64 x4]).bind fun H5 =>
    ck (((0 : Int) ≤ 0 ∧ 0 ≤ v5 ∧ v5 ≤ (v1.cap : Int)) ∧ (v1.opn = 0 ∨ v1.opn = 2)) (
    r31_l4 (fun v1_ v2_ v3_ v4_ v5_ H_ => r31_l2 k_ v1_ v2_ v3_ v4_ v5_ H_) FUEL v1 v2 v5 H.n false v3 v4 v5 (v1.cut 2 (0 : Int).toNat (v5 : Int).toNat) ((v1.cut 2 (0 : Int).toNat (v5 : Int).toNat).len : Int) 0 H5)))
  else
    (some (v2, H))
noncomputable def r31_l0 : Nat → Sl → Sl → Int → Hp → Option (Sl × Hp)
  | 0, _, _, _, _ => none
  | k_ + 1, v1, v2, v3, H => if v3 < 31 then
    (r31_l1 (fun v1_ v2_ v3_ H_ => r31_l0 k_ v1_ v2_ v3_ H_) FUEL v1 v2 v3 (-1) v3 v1 (v1.len : Int) 0 H)
  else
    (r31_l2 FUEL v2 ⟨true, 0, 0, 0, 0, 0⟩ v2 (v2.len : Int) 0 H)
noncomputable def r31 (a0 : Sl) (H : Hp) : Option (Sl × Hp) :=
  r31_l0 FUEL a0 ⟨true, 0, 0, 0, 0, 0⟩ 0 H
/- 13 congou/congouref05.Product -/
def ret13 : Int × Int × Int × Int → AV := fun r => .agg [.int .i64 r.1, .int .i64 r.2.1, .int .i64 r.2.2.1, .int .i64 r.2.2.2]
noncomputable def r13_j1 (kt0 : Nat → Nat → Sl → Sl → Sl → Int → Int → Hp → Option ((Int × Int × Int × Int) × Hp)) (v1 : Nat) (v2 : Nat) (v3 : Sl) (v4 : Sl) (v5 : Nat) (v6 : Sl) (v7 : Int) (v8 : Int) (v9 : Bool) (H : Hp) : Option ((Int × Int × Int × Int) × Hp) :=
  if v9 = true then
    ((H.ldI .i64 v5 0).bind fun x2 =>
    (H.ldI .i64 v5 (0 + 1)).bind fun x3 =>
    (H.ldI .i64 v5 (0 + 2)).bind fun x4 =>
    (H.ldI .i64 v5 (0 + 3)).bind fun x5 =>
    (H.apN 4 v4 [.int .i64 x2, .int .i64 x3, .int .i64 x4, .int .i64 x5] 1).bind fun x6 =>
    kt0 v1 v2 v3 x6.1 v6 v7 (w64 (v8 + 1)) x6.2)
  else
    (kt0 v1 v2 v3 v4 v6 v7 (w64 (v8 + 1)) H)
noncomputable def r13_j4 (kt2 : Nat → Nat → Nat → Nat → Sl → Int → Int → Hp → Option ((Int × Int × Int × Int) × Hp)) (v1 : Nat) (v2 : Nat) (v3 : Nat) (v4 : Nat) (v5 : Nat) (v6 : Nat) (v7 : Sl) (v8 : Int) (v9 : Int) (v10 : Bool) (H : Hp) : Option ((Int × Int × Int × Int) × Hp) :=
  if v10 = true then
    ((H.ldI .i64 v5 0).bind fun x2 =>
    (H.ldI .i64 v5 (0 + 1)).bind fun x3 =>
    (H.ldI .i64 v5 (0 + 2)).bind fun x4 =>
    (H.ldI .i64 v5 (0 + 3)).bind fun x5 =>
    (H.ldI .i64 v6 0).bind fun x6 =>
    (H.ldI .i64 v6 (0 + 1)).bind fun x7 =>
    (H.sts v3 0 [.int .i64 x2, .int .i64 x3, .int .i64 x4, .int .i64 x5]).bind fun H8 =>
    (H8.sts v4 0 [.int .i64 x6, .int .i64 x7]).bind fun H9 =>
    ck (H8.ldI .i64 v6 0 = some x6) (
    ck (H8.ldI .i64 v6 (0 + 1) = some x7) (
    kt2 v1 v2 v3 v4 v7 v8 (w64 (v9 + 1)) H9)))
  else
    (kt2 v1 v2 v3 v4 v7 v8 (w64 (v9 + 1)) H)
noncomputable def r13_j3 (kt2 : Nat → Nat → Nat → Nat → Sl → Int → Int → Hp → Option ((Int × Int × Int × Int) × Hp)) (v1 : Nat) (v2 : Nat) (v3 : Nat) (v4 : Nat) (v5 : Nat) (v6 : Nat) (v7 : Nat) (v8 : Sl) (v9 : Int) (v10 : Int) (v11 : Bool) (H : Hp) : Option ((Int × Int × Int × Int) × Hp) :=
  if v11 = true then
    (kt2 v1 v2 v3 v4 v8 v9 (w64 (v10 + 1)) H)
  else
    ((H.ldI .i64 v6 0).bind fun x2 =>
    (H.ldI .i64 v6 (0 + 1)).bind fun x3 =>
    (H.ldI .i64 v7 0).bind fun x4 =>
    (H.ldI .i64 v7 (0 + 1)).bind fun x5 =>
    (r36 x2 x3 x4 x5 H0).bind fun p6 =>
    ((H.push (.cells [.int .i64 0, .int .i64 0] false)).sts H.n 0 [.int .i64 p6.1.1, .int .i64 p6.1.2]).bind fun H7 =>
    (H7.ldI .i64 v4 0).bind fun x8 =>
    (H7.ldI .i64 v4 (0 + 1)).bind fun x9 =>
    (H7.ldI .i64 H.n 0).bind fun x10 =>
    (H7.ldI .i64 H.n (0 + 1)).bind fun x11 =>
    (r34 x8 x9 x10 x11 H0).bind fun p12 =>
    if p12.1 = true then
      (r13_j4 kt2 v1 v2 v3 v4 v5 H.n v8 v9 v10 true H7)
    else
      ((H7.ldI .i64 v4 (0 + 1)).bind fun x14 =>
      r13_j4 kt2 v1 v2 v3 v4 v5 H.n v8 v9 v10 (decide (x14 = 0)) H7))
noncomputable def r13_l2 : Nat → Nat → Nat → Nat → Nat → Sl → Int → Int → Hp → Option ((Int × Int × Int × Int) × Hp)
  | 0, _, _, _, _, _, _, _, _ => none
  | k_ + 1, v1, v2, v3, v4, v5, v6, v7, H => if v7 < v6 then
    (ck ((0 : Int) ≤ v7 ∧ v7 < (v5.len : Int)) (
    (H.ldI .i64 v5.b (v5.o + (v7 : Int).toNat * 4)).bind fun x3 =>
    (H.ldI .i64 v5.b ((v5.o + (v7 : Int).toNat * 4) + 1)).bind fun x4 =>
    (H.ldI .i64 v5.b ((v5.o + (v7 : Int).toNat * 4) + 2)).bind fun x5 =>
    (H.ldI .i64 v5.b ((v5.o + (v7 : Int).toNat * 4) + 3)).bind fun x6 =>
    ((H.push (.cells [.int .i64 0, .int .i64 0, .int .i64 0, .int .i64 0] false)).sts H.n 0 [.int .i64 x3, .int .i64 x4, .int .i64 x5, .int .i64 x6]).bind fun H7 =>
    (H7.ldI .i64 H.n (0 + 0)).bind fun x8 =>
    (H7.ldI .i64 H.n ((0 + 0) + 1)).bind fun x9 =>
    (H7.ldI .i64 v1 (0 + (0 : Int).toNat * 1)).bind fun x10 =>
    (r30 x10 H0).bind fun p11 =>
    (r35 x8 x9 p11.1.1 p11.1.2 H0).bind fun p12 =>
    (H7.ldI .i64 H.n (0 + 2)).bind fun x13 =>
    (H7.ldI .i64 H.n ((0 + 2) + 1)).bind fun x14 =>
    (H7.ldI .i64 v1 (0 + (1 : Int).toNat * 1)).bind fun x15 =>
    (r30 x15 H0).bind fun p16 =>
    (r35 x13 x14 p16.1.1 p16.1.2 H0).bind fun p17 =>
    (((H7.push (.cells [.int .i64 0, .int .i64 0] false)).push (.cells [.int .i64 0, .int .i64 0] false)).sts H7.n 0 [.int .i64 p12.1.1, .int .i64 p12.1.2]).bind fun H18 =>
    (H18.sts ((H7.push (.cells [.int .i64 0, .int .i64 0] false)).n) 0 [.int .i64 p17.1.1, .int .i64 p17.1.2]).bind fun H19 =>
    (H19.ldI .i64 H7.n (0 + 0)).bind fun x20 =>
    if x20 ≤ 0 then
      (r13_j3 (fun v1_ v2_ v3_ v4_ v5_ v6_ v7_ H_ => r13_l2 k_ v1_ v2_ v3_ v4_ v5_ v6_ v7_ H_) v1 v2 v3 v4 H.n H7.n ((H7.push (.cells [.int .i64 0, .int .i64 0] false)).n) v5 v6 v7 true H19)
    else
      ((H19.ldI .i64 ((H7.push (.cells [.int .i64 0, .int .i64 0] false)).n) (0 + 0)).bind fun x22 =>
      r13_j3 (fun v1_ v2_ v3_ v4_ v5_ v6_ v7_ H_ => r13_l2 k_ v1_ v2_ v3_ v4_ v5_ v6_ v7_ H_) v1 v2 v3 v4 H.n H7.n ((H7.push (.cells [.int .i64 0, .int .i64 0] false)).n) v5 v6 v7 (decide (x22 ≤ 0)) H19)))
  else
    ((H.ldI .i64 v3 0).bind fun x23 =>
    (H.ldI .i64 v3 (0 + 1)).bind fun x24 =>
    (H.ldI .i64 v3 (0 + 2)).bind fun x25 =>
    (H.ldI .i64 v3 (0 + 3)).bind fun x26 =>
    (H.sts v2 0 [.int .i64 x23, .int .i64 x24, .int .i64 x25, .int .i64 x26]).bind fun H27 =>
    (H27.ldI .i64 v2 0).bind fun x28 =>
    (H27.ldI .i64 v2 (0 + 1)).bind fun x29 =>
    (H27.ldI .i64 v2 (0 + 2)).bind fun x30 =>
    (H27.ldI .i64 v2 (0 + 3)).bind fun x31 =>
    some ((x28, x29, x30, x31), H27))
noncomputable def r13_l0 : Nat → Nat → Nat → Sl → Sl → Sl → Int → Int → Hp → Option ((Int × Int × Int × Int) × Hp)
  | 0, _, _, _, _, _, _, _, _ => none
  | k_ + 1, v1, v2, v3, v4, v5, v6, v7, H => if v7 < v6 then
    (ck ((0 : Int) ≤ v7 ∧ v7 < (v5.len : Int)) (
    (H.ldI .i64 v5.b (v5.o + (v7 : Int).toNat * 2)).bind fun x3 =>
    (H.ldI .i64 v5.b ((v5.o + (v7 : Int).toNat * 2) + 1)).bind fun x4 =>
    ((H.push (.cells [.int .i64 0, .int .i64 0] false)).sts H.n 0 [.int .i64 x3, .int .i64 x4]).bind fun H5 =>
    (H5.ldI .i64 H.n 0).bind fun x6 =>
    (H5.ldI .i64 H.n (0 + 1)).bind fun x7 =>
    (r28 x6 x7 H0).bind fun p8 =>
    (H5.apN 4 v4 [.int .i64 p8.1.1, .int .i64 p8.1.2.1, .int .i64 p8.1.2.2.1, .int .i64 p8.1.2.2.2] 1).bind fun x9 =>
    if v7 = 0 then
      (r13_l0 k_ v1 v2 v3 x9.1 v5 v6 (w64 (v7 + 1)) x9.2)
    else
      (ck ((0 : Int) ≤ (w64 (v7 - 1)) ∧ (w64 (v7 - 1)) < (v3.len : Int)) (
      (x9.2.ldI .i64 v3.b (v3.o + (w64 (v7 - 1) : Int).toNat * 2)).bind fun x12 =>
      (x9.2.ldI .i64 v3.b ((v3.o + (w64 (v7 - 1) : Int).toNat * 2) + 1)).bind fun x13 =>
      ((x9.2.push (.cells [.int .i64 0, .int .i64 0] false)).sts x9.2.n 0 [.int .i64 x12, .int .i64 x13]).bind fun H14 =>
      (H14.ldI .i64 x9.2.n (0 + (1 : Int).toNat * 1)).bind fun x15 =>
      (H14.ldI .i64 H.n (0 + (1 : Int).toNat * 1)).bind fun x16 =>
      (H14.ldI .i64 H.n (0 + (0 : Int).toNat * 1)).bind fun x17 =>
      (H14.ldI .i64 x9.2.n (0 + (0 : Int).toNat * 1)).bind fun x18 =>
      (H14.ldI .i64 H.n (0 + (0 : Int).toNat * 1)).bind fun x19 =>
      (H14.ldI .i64 H.n (0 + (1 : Int).toNat * 1)).bind fun x20 =>
      (H14.ldI .i64 v1 (0 + (0 : Int).toNat * 1)).bind fun x21 =>
      (H14.ldI .i64 v1 (0 + (1 : Int).toNat * 1)).bind fun x22 =>
      (H14.ldI .i64 v1 (0 + (0 : Int).toNat * 1)).bind fun x23 =>
      (r30 x23 H0).bind fun p24 =>
      (r33 (w64 ((w64 ((w64 ((w64 ((w64 (x15 - x16)) * x19)) + (w64 ((w64 (x17 - x18)) * x20)))) - (w64 ((w64 (x15 - x16)) * x21)))) - (w64 ((w64 (x17 - x18)) * x22)))) (w64 (2 * (w64 (x15 - x16)))) H0).bind fun p25 =>
      (r32 p24.1.1 p24.1.2 p25.1.1 p25.1.2 H0).bind fun p26 =>
      (H14.ldI .i64 v1 (0 + (1 : Int).toNat * 1)).bind fun x27 =>
      (r30 x27 H0).bind fun p28 =>
      (r33 (w64 ((w64 ((w64 ((w64 ((w64 (x15 - x16)) * x19)) + (w64 ((w64 (x17 - x18)) * x20)))) - (w64 ((w64 (x15 - x16)) * x21)))) - (w64 ((w64 (x17 - x18)) * x22)))) (w64 (2 * (w64 (x17 - x18)))) H0).bind fun p29 =>
      (r32 p28.1.1 p28.1.2 p29.1.1 p29.1.2 H0).bind fun p30 =>
      ((H14.push (.cells [.int .i64 0, .int .i64 0, .int .i64 0, .int .i64 0] false)).sts H14.n 0 [.int .i64 p26.1.1, .int .i64 p26.1.2, .int .i64 p30.1.1, .int .i64 p30.1.2]).bind fun H31 =>
      (H31.ldI .i64 H14.n (0 + 0)).bind fun x32 =>
      (H31.ldI .i64 H14.n ((0 + 0) + 1)).bind fun x33 =>
      (H31.ldI .i64 x9.2.n (0 + (0 : Int).toNat * 1)).bind fun x34 =>
      (r30 x34 H0).bind fun p35 =>
      (r34 x32 x33 p35.1.1 p35.1.2 H0).bind fun p36 =>
      if p36.1 = true then
        (r13_j1 (fun v1_ v2_ v3_ v4_ v5_ v6_ v7_ H_ => r13_l0 k_ v1_ v2_ v3_ v4_ v5_ v6_ v7_ H_) v1 v2 v3 x9.1 H14.n v5 v6 v7 false H31)
      else
        ((H31.ldI .i64 H.n (0 + (0 : Int).toNat * 1)).bind fun x38 =>
        (r30 x38 H0).bind fun p39 =>
        (H31.ldI .i64 H14.n (0 + 0)).bind fun x40 =>
        (H31.ldI .i64 H14.n ((0 + 0) + 1)).bind fun x41 =>
        (r34 p39.1.1 p39.1.2 x40 x41 H0).bind fun p42 =>
        r13_j1 (fun v1_ v2_ v3_ v4_ v5_ v6_ v7_ H_ => r13_l0 k_ v1_ v2_ v3_ v4_ v5_ v6_ v7_ H_) v1 v2 v3 x9.1 H14.n v5 v6 v7 (!p42.1) H31)))))
  else
    (lt (H.push (.cells [.int .i64 0, .int .i64 0, .int .i64 0, .int .i64 0] false)) fun H43 =>
    lt (H43.push (.cells [.int .i64 0, .int .i64 0] false)) fun H44 =>
    r13_l2 FUEL v1 v2 H.n H43.n v4 (v4.len : Int) 0 H44)
noncomputable def r13 (a0 : Sl) (a1_0 : Int) (a1_1 : Int) (H : Hp) : Option ((Int × Int × Int × Int) × Hp) :=
  lt ((H.push (.cells [.int .i64 a1_0, .int .i64 a1_1] false)).push (.cells [.int .i64 0, .int .i64 0, .int .i64 0, .int .i64 0] false)) fun H1 =>
  (r31 a0 H1).bind fun p2 =>
  r13_l0 FUEL H.n ((H.push (.cells [.int .i64 a1_0, .int .i64 a1_1] false)).n) p2.1 ⟨true, 0, 0, 0, 0, 0⟩ p2.1 (p2.1.len : Int) 0 p2.2
/- 14 congou/congouref05.Best -/
def ret14 : Int × Int × Int × Int → AV := fun r => .agg [.int .i64 r.1, .int .i64 r.2.1, .int .i64 r.2.2.1, .int .i64 r.2.2.2]
noncomputable def r14 (a0 : Sl) (a1_0 : Int) (a1_1 : Int) (H : Hp) : Option ((Int × Int × Int × Int) × Hp) :=
  lt ((H.push (.cells [.int .i64 a1_0, .int .i64 a1_1] false)).push (.cells [.int .i64 0, .int .i64 0, .int .i64 0, .int .i64 0] false)) fun H1 =>
  (H1.ldI .i64 H.n 0).bind fun x2 =>
  (H1.ldI .i64 H.n (0 + 1)).bind fun x3 =>
  (r28 x2 x3 H0).bind fun p4 =>
  (r30 1 H0).bind fun p5 =>
  (r30 0 H0).bind fun p6 =>
  (r29 a0 p4.1.1 p4.1.2.1 p4.1.2.2.1 p4.1.2.2.2 p5.1.1 p5.1.2 p6.1.1 p6.1.2 H1).bind fun p7 =>
  ((p7.2.push (.cells [.int .i64 0, .int .i64 0] false)).sts p7.2.n 0 [.int .i64 p7.1.1, .int .i64 p7.1.2.1]).bind fun H8 =>
  (H8.ldI .i64 H.n 0).bind fun x9 =>
  (H8.ldI .i64 H.n (0 + 1)).bind fun x10 =>
  (r28 x9 x10 H0).bind fun p11 =>
  (r30 0 H0).bind fun p12 =>
  (r30 1 H0).bind fun p13 =>
  (r29 a0 p11.1.1 p11.1.2.1 p11.1.2.2.1 p11.1.2.2.2 p12.1.1 p12.1.2 p13.1.1 p13.1.2 H8).bind fun p14 =>
  ((p14.2.push (.cells [.int .i64 0, .int .i64 0] false)).sts p14.2.n 0 [.int .i64 p14.1.1, .int .i64 p14.1.2.1]).bind fun H15 =>
  (H15.ldI .i64 H.n 0).bind fun x16 =>
  (H15.ldI .i64 H.n (0 + 1)).bind fun x17 =>
  (r28 x16 x17 H0).bind fun p18 =>
  (H15.ldI .i64 p7.2.n 0).bind fun x19 =>
  (H15.ldI .i64 p7.2.n (0 + 1)).bind fun x20 =>
  (H15.ldI .i64 p14.2.n 0).bind fun x21 =>
  (H15.ldI .i64 p14.2.n (0 + 1)).bind fun x22 =>
  (r29 a0 p18.1.1 p18.1.2.1 p18.1.2.2.1 p18.1.2.2.2 x19 x20 x21 x22 H15).bind fun p23 =>
  ((p23.2.push (.cells [.int .i64 0, .int .i64 0] false)).sts p23.2.n 0 [.int .i64 p23.1.1, .int .i64 p23.1.2.1]).bind fun H24 =>
  (H24.ldI .i64 H.n (0 + (0 : Int).toNat * 1)).bind fun x25 =>
  (r30 x25 H0).bind fun p26 =>
  (H24.ldI .i64 p23.2.n 0).bind fun x27 =>
  (H24.ldI .i64 p23.2.n (0 + 1)).bind fun x28 =>
  (H24.ldI .i64 p7.2.n 0).bind fun x29 =>
  (H24.ldI .i64 p7.2.n (0 + 1)).bind fun x30 =>
  (r36 x27 x28 x29 x30 H0).bind fun p31 =>
  (r32 p26.1.1 p26.1.2 p31.1.1 p31.1.2 H0).bind fun p32 =>
  (H24.ldI .i64 H.n (0 + (1 : Int).toNat * 1)).bind fun x33 =>
  (r30 x33 H0).bind fun p34 =>
  (H24.ldI .i64 p23.2.n 0).bind fun x35 =>
  (H24.ldI .i64 p23.2.n (0 + 1)).bind fun x36 =>
  (H24.ldI .i64 p14.2.n 0).bind fun x37 =>
  (H24.ldI .i64 p14.2.n (0 + 1)).bind fun x38 =>
  (r36 x35 x36 x37 x38 H0).bind fun p39 =>
  (r32 p34.1.1 p34.1.2 p39.1.1 p39.1.2 H0).bind fun p40 =>
  (H24.sts ((H.push (.cells [.int .i64 a1_0, .int .i64 a1_1] false)).n) 0 [.int .i64 p32.1.1, .int .i64 p32.1.2, .int .i64 p40.1.1, .int .i64 p40.1.2]).bind fun H41 =>
  (H41.ldI .i64 ((H.push (.cells [.int .i64 a1_0, .int .i64 a1_1] false)).n) 0).bind fun x42 =>
  (H41.ldI .i64 ((H.push (.cells [.int .i64 a1_0, .int .i64 a1_1] false)).n) (0 + 1)).bind fun x43 =>
  (H41.ldI .i64 ((H.push (.cells [.int .i64 a1_0, .int .i64 a1_1] false)).n) (0 + 2)).bind fun x44 =>
  (H41.ldI .i64 ((H.push (.cells [.int .i64 a1_0, .int .i64 a1_1] false)).n) (0 + 3)).bind fun x45 =>
  some ((x42, x43, x44, x45), H41)
/- 15 congou/congouref05.Halves -/
def ret15 : Int × Int × Int × Int → AV := fun r => .agg [.int .i64 r.1, .int .i64 r.2.1, .int .i64 r.2.2.1, .int .i64 r.2.2.2]
noncomputable def r15 (a0 : Sl) (a1_0 : Int) (a1_1 : Int) (H : Hp) : Option ((Int × Int × Int × Int) × Hp) :=
  lt ((H.push (.cells [.int .i64 a1_0, .int .i64 a1_1] false)).push (.cells [.int .i64 0, .int .i64 0, .int .i64 0, .int .i64 0] false)) fun H1 =>
  (H1.ldI .i64 H.n 0).bind fun x2 =>
  (H1.ldI .i64 H.n (0 + 1)).bind fun x3 =>
  (r28 x2 x3 H0).bind fun p4 =>
  (r30 1 H0).bind fun p5 =>
  (r30 1 H0).bind fun p6 =>
  (r29 a0 p4.1.1 p4.1.2.1 p4.1.2.2.1 p4.1.2.2.2 p5.1.1 p5.1.2 p6.1.1 p6.1.2 H1).bind fun p7 =>
  ((p7.2.push (.cells [.int .i64 0, .int .i64 0] false)).sts p7.2.n 0 [.int .i64 p7.1.1, .int .i64 p7.1.2.1]).bind fun H8 =>
  (H8.ldI .i64 H.n (0 + (0 : Int).toNat * 1)).bind fun x9 =>
  (r30 x9 H0).bind fun p10 =>
  (H8.ldI .i64 p7.2.n 0).bind fun x11 =>
  (H8.ldI .i64 p7.2.n (0 + 1)).bind fun x12 =>
  (r32 p10.1.1 p10.1.2 x11 x12 H0).bind fun p13 =>
  (H8.ldI .i64 H.n (0 + (1 : Int).toNat * 1)).bind fun x14 =>
  (r30 x14 H0).bind fun p15 =>
  (H8.ldI .i64 p7.2.n 0).bind fun x16 =>
  (H8.ldI .i64 p7.2.n (0 + 1)).bind fun x17 =>
  (r32 p15.1.1 p15.1.2 x16 x17 H0).bind fun p18 =>
  (H8.sts ((H.push (.cells [.int .i64 a1_0, .int .i64 a1_1] false)).n) 0 [.int .i64 p13.1.1, .int .i64 p13.1.2, .int .i64 p18.1.1, .int .i64 p18.1.2]).bind fun H19 =>
  (H19.ldI .i64 ((H.push (.cells [.int .i64 a1_0, .int .i64 a1_1] false)).n) 0).bind fun x20 =>
  (H19.ldI .i64 ((H.push (.cells [.int .i64 a1_0, .int .i64 a1_1] false)).n) (0 + 1)).bind fun x21 =>
  (H19.ldI .i64 ((H.push (.cells [.int .i64 a1_0, .int .i64 a1_1] false)).n) (0 + 2)).bind fun x22 =>
  (H19.ldI .i64 ((H.push (.cells [.int .i64 a1_0, .int .i64 a1_1] false)).n) (0 + 3)).bind fun x23 =>
  some ((x20, x21, x22, x23), H19)
/- 3 congou/congoulaw05.DealsRules -/
def ret3 : Bool → AV := fun r => .bool r
noncomputable def r3_j2 (app : App) (v1 : Nat) (v2 : Int) (v3 : Nat) (v4 : Int) (v5 : Nat) (v6 : Int) (v7 : Int) (H : Hp) : Option (Bool × Hp) :=
  (H.ldI .i64 v1 0).bind fun x1 =>
  (H.ldI .i64 v1 (0 + 1)).bind fun x2 =>
  (H.ldI .i64 v1 (0 + 2)).bind fun x3 =>
  (H.ldI .i64 v1 (0 + 3)).bind fun x4 =>
  if (((x1 == 0) && (x2 == 0)) && ((x3 == 0) && (x4 == 0))) = true then
    ((H.ldI .i64 v3 0).bind fun x6 =>
    (H.ldI .i64 v3 (0 + 1)).bind fun x7 =>
    (H.ldI .i64 v3 (0 + 2)).bind fun x8 =>
    (H.ldI .i64 v3 (0 + 3)).bind fun x9 =>
    if (((x6 == 0) && (x7 == 0)) && ((x8 == 0) && (x9 == 0))) = true then
      ((H.ldI .i64 v5 0).bind fun x11 =>
      (H.ldI .i64 v5 (0 + 1)).bind fun x12 =>
      (H.ldI .i64 v5 (0 + 2)).bind fun x13 =>
      (H.ldI .i64 v5 (0 + 3)).bind fun x14 =>
      if (((x11 == 0) && (x12 == 0)) && ((x13 == 0) && (x14 == 0))) = true then
        (if v2 = v7 then
          (if v4 = v7 then
            (if v6 = v7 then
              ((app 11 [] H).bind fun p19 =>
              (p19.1.asB).bind fun x20 =>
              some (x20, p19.2))
            else
              (some (false, H)))
          else
            (some (false, H)))
        else
          (some (false, H)))
      else
        (some (false, H)))
    else
      (some (false, H)))
  else
    (some (false, H))
noncomputable def r3_j0 (app : App) (v1 : Sl) (v2 : Nat) (v3 : Nat) (v4 : Int) (v5 : Nat) (v6 : Int) (v7 : Nat) (v8 : Int) (v9 : Bool) (v10 : Bool) (H : Hp) : Option (Bool × Hp) :=
  if v10 = true then
    (if v9 = true then
      (r3_j2 app v3 v4 v5 v6 v7 v8 4 H)
    else
      (r3_j2 app v3 v4 v5 v6 v7 v8 2 H))
  else
    ((H.ldI .i64 v3 0).bind fun x3 =>
    (H.ldI .i64 v3 (0 + 1)).bind fun x4 =>
    (H.ldI .i64 v3 (0 + 2)).bind fun x5 =>
    (H.ldI .i64 v3 (0 + 3)).bind fun x6 =>
    (r12 x3 x4 x5 x6 H0).bind fun p7 =>
    (H.ldI .i64 v2 0).bind fun x8 =>
    (H.ldI .i64 v2 (0 + 1)).bind fun x9 =>
    (r13 v1 x8 x9 H).bind fun p10 =>
    if (((p7.1.1 == p10.1.1) && (p7.1.2.1 == p10.1.2.1)) && ((p7.1.2.2.1 == p10.1.2.2.1) && (p7.1.2.2.2 == p10.1.2.2.2))) = true then
      ((p10.2.ldI .i64 v5 0).bind fun x12 =>
      (p10.2.ldI .i64 v5 (0 + 1)).bind fun x13 =>
      (p10.2.ldI .i64 v5 (0 + 2)).bind fun x14 =>
      (p10.2.ldI .i64 v5 (0 + 3)).bind fun x15 =>
      (r12 x12 x13 x14 x15 H0).bind fun p16 =>
      (p10.2.ldI .i64 v2 0).bind fun x17 =>
      (p10.2.ldI .i64 v2 (0 + 1)).bind fun x18 =>
      (r14 v1 x17 x18 p10.2).bind fun p19 =>
      if (((p16.1.1 == p19.1.1) && (p16.1.2.1 == p19.1.2.1)) && ((p16.1.2.2.1 == p19.1.2.2.1) && (p16.1.2.2.2 == p19.1.2.2.2))) = true then
        ((p19.2.ldI .i64 v7 0).bind fun x21 =>
        (p19.2.ldI .i64 v7 (0 + 1)).bind fun x22 =>
        (p19.2.ldI .i64 v7 (0 + 2)).bind fun x23 =>
        (p19.2.ldI .i64 v7 (0 + 3)).bind fun x24 =>
        (r12 x21 x22 x23 x24 H0).bind fun p25 =>
        (p19.2.ldI .i64 v2 0).bind fun x26 =>
        (p19.2.ldI .i64 v2 (0 + 1)).bind fun x27 =>
        (r15 v1 x26 x27 p19.2).bind fun p28 =>
        if (((p25.1.1 == p28.1.1) && (p25.1.2.1 == p28.1.2.1)) && ((p25.1.2.2.1 == p28.1.2.2.1) && (p25.1.2.2.2 == p28.1.2.2.2))) = true then
          (if v4 = 0 then
            (if v6 = 0 then
              (if v8 = 0 then
                ((app 11 [] p28.2).bind fun p33 =>
                (p33.1.asB).bind fun x34 =>
                some (x34, p33.2))
              else
                (some (false, p28.2)))
            else
              (some (false, p28.2)))
          else
            (some (false, p28.2)))
        else
          (some (false, p28.2)))
      else
        (some (false, p19.2)))
    else
      (some (false, p10.2)))
noncomputable def r3_j1 (app : App) (v1 : Sl) (v2 : Nat) (v3 : Nat) (v4 : Int) (v5 : Nat) (v6 : Int) (v7 : Nat) (v8 : Int) (v9 : Bool) (H : Hp) : Option (Bool × Hp) :=
  if v9 = true then
    ((H.ldI .i64 v2 0).bind fun x2 =>
    (H.ldI .i64 v2 (0 + 1)).bind fun x3 =>
    (r10 v1 x2 x3 H).bind fun p4 =>
    r3_j0 app v1 v2 v3 v4 v5 v6 v7 v8 true (!p4.1) p4.2)
  else
    (r3_j0 app v1 v2 v3 v4 v5 v6 v7 v8 false true H)
noncomputable def r3 (app : App) (a0 : Sl) (a1_0 : Int) (a1_1 : Int) (H : Hp) : Option (Bool × Hp) :=
  lt (H.push (.cells [.int .i64 a1_0, .int .i64 a1_1] false)) fun H1 =>
  (r5 a0 H1).bind fun p2 =>
  (p2.2.ldI .i64 H.n 0).bind fun x3 =>
  (p2.2.ldI .i64 H.n (0 + 1)).bind fun x4 =>
  (r4 app p2.1 x3 x4 p2.2).bind fun p5 =>
  ((p5.2.push (.cells [.int .i64 0, .int .i64 0, .int .i64 0, .int .i64 0] false)).sts p5.2.n 0 [.int .i64 p5.1.1, .int .i64 p5.1.2.1, .int .i64 p5.1.2.2.1, .int .i64 p5.1.2.2.2.1]).bind fun H6 =>
  ck (H1.ldI .i64 H.n 0 = some x3) (
  ck (H1.ldI .i64 H.n (0 + 1) = some x4) (
  (r5 a0 H6).bind fun p9 =>
  (p9.2.ldI .i64 H.n 0).bind fun x10 =>
  (p9.2.ldI .i64 H.n (0 + 1)).bind fun x11 =>
  (r6 app p9.1 x10 x11 p9.2).bind fun p12 =>
  ((p12.2.push (.cells [.int .i64 0, .int .i64 0, .int .i64 0, .int .i64 0] false)).sts p12.2.n 0 [.int .i64 p12.1.1, .int .i64 p12.1.2.1, .int .i64 p12.1.2.2.1, .int .i64 p12.1.2.2.2.1]).bind fun H13 =>
  ck (H6.ldI .i64 H.n 0 = some x10) (
  ck (H6.ldI .i64 H.n (0 + 1) = some x11) (
  (r5 a0 H13).bind fun p16 =>
  (p16.2.ldI .i64 H.n 0).bind fun x17 =>
  (p16.2.ldI .i64 H.n (0 + 1)).bind fun x18 =>
  (r7 app p16.1 x17 x18 p16.2).bind fun p19 =>
  ((p19.2.push (.cells [.int .i64 0, .int .i64 0, .int .i64 0, .int .i64 0] false)).sts p19.2.n 0 [.int .i64 p19.1.1, .int .i64 p19.1.2.1, .int .i64 p19.1.2.2.1, .int .i64 p19.1.2.2.2.1]).bind fun H20 =>
  ck (H13.ldI .i64 H.n 0 = some x17) (
  ck (H13.ldI .i64 H.n (0 + 1) = some x18) (
  (r8 a0 H20).bind fun p23 =>
  if p23.1 = true then
    ((p23.2.ldI .i64 H.n 0).bind fun x25 =>
    (p23.2.ldI .i64 H.n (0 + 1)).bind fun x26 =>
    (r9 x25 x26 H0).bind fun p27 =>
    r3_j1 app a0 H.n p5.2.n p5.1.2.2.2.2 p12.2.n p12.1.2.2.2.2 p19.2.n p19.1.2.2.2.2 p27.1 p23.2)
  else
    (r3_j1 app a0 H.n p5.2.n p5.1.2.2.2.2 p12.2.n p12.1.2.2.2.2 p19.2.n p19.1.2.2.2.2 false p23.2)))))))
/- 20 congou/deals.gain -/
def ret20 : Int × Int → AV := fun r => .agg [.int .i64 r.1, .int .i64 r.2]
noncomputable def r20_j0 (v1 : Nat) (v2 : Nat) (v3 : Nat) (v4 : Bool) (H : Hp) : Option ((Int × Int) × Hp) :=
  if v4 = true then
    ((r18 (-1) 1 H0).bind fun p2 =>
    (H.sts v1 0 [.int .i64 p2.1.1, .int .i64 p2.1.2]).bind fun H3 =>
    (H3.ldI .i64 v1 0).bind fun x4 =>
    (H3.ldI .i64 v1 (0 + 1)).bind fun x5 =>
    some ((x4, x5), H3))
  else
    ((H.ldI .i64 v2 (0 + 0)).bind fun x6 =>
    (H.ldI .i64 v3 (0 + 0)).bind fun x7 =>
    (H.ldI .i64 v2 (0 + 1)).bind fun x8 =>
    (H.ldI .i64 v3 (0 + 1)).bind fun x9 =>
    (r18 (w64 (x6 * x7)) (w64 (x8 * x9)) H0).bind fun p10 =>
    (H.sts v1 0 [.int .i64 p10.1.1, .int .i64 p10.1.2]).bind fun H11 =>
    (H11.ldI .i64 v1 0).bind fun x12 =>
    (H11.ldI .i64 v1 (0 + 1)).bind fun x13 =>
    some ((x12, x13), H11))
noncomputable def r20 (a0_0 : Int) (a0_1 : Int) (a0_2 : Int) (a0_3 : Int) (a1_0 : Int) (a1_1 : Int) (H : Hp) : Option ((Int × Int) × Hp) :=
  lt (((H.push (.cells [.int .i64 a0_0, .int .i64 a0_1, .int .i64 a0_2, .int .i64 a0_3] false)).push (.cells [.int .i64 a1_0, .int .i64 a1_1] false)).push (.cells [.int .i64 0, .int .i64 0] false)) fun H1 =>
  (H1.ldI .i64 H.n ((0 + 0) + 0)).bind fun x2 =>
  (H1.ldI .i64 ((H.push (.cells [.int .i64 a0_0, .int .i64 a0_1, .int .i64 a0_2, .int .i64 a0_3] false)).n) (0 + (0 : Int).toNat * 1)).bind fun x3 =>
  (H1.ldI .i64 H.n ((0 + 0) + 1)).bind fun x4 =>
  (H1.ldI .i64 H.n ((0 + 0) + 1)).bind fun x5 =>
  (r18 (w64 (x2 - (w64 (x3 * x4)))) x5 H0).bind fun p6 =>
  (H1.ldI .i64 H.n ((0 + 2) + 0)).bind fun x7 =>
  (H1.ldI .i64 ((H.push (.cells [.int .i64 a0_0, .int .i64 a0_1, .int .i64 a0_2, .int .i64 a0_3] false)).n) (0 + (1 : Int).toNat * 1)).bind fun x8 =>
  (H1.ldI .i64 H.n ((0 + 2) + 1)).bind fun x9 =>
  (H1.ldI .i64 H.n ((0 + 2) + 1)).bind fun x10 =>
  (r18 (w64 (x7 - (w64 (x8 * x9)))) x10 H0).bind fun p11 =>
  (((H1.push (.cells [.int .i64 0, .int .i64 0] false)).push (.cells [.int .i64 0, .int .i64 0] false)).sts H1.n 0 [.int .i64 p6.1.1, .int .i64 p6.1.2]).bind fun H12 =>
  (H12.sts ((H1.push (.cells [.int .i64 0, .int .i64 0] false)).n) 0 [.int .i64 p11.1.1, .int .i64 p11.1.2]).bind fun H13 =>
  (H13.ldI .i64 H1.n (0 + 0)).bind fun x14 =>
  if x14 < 0 then
    (r20_j0 (((H.push (.cells [.int .i64 a0_0, .int .i64 a0_1, .int .i64 a0_2, .int .i64 a0_3] false)).push (.cells [.int .i64 a1_0, .int .i64 a1_1] false)).n) H1.n ((H1.push (.cells [.int .i64 0, .int .i64 0] false)).n) true H13)
  else
    ((H13.ldI .i64 ((H1.push (.cells [.int .i64 0, .int .i64 0] false)).n) (0 + 0)).bind fun x16 =>
    r20_j0 (((H.push (.cells [.int .i64 a0_0, .int .i64 a0_1, .int .i64 a0_2, .int .i64 a0_3] false)).push (.cells [.int .i64 a1_0, .int .i64 a1_1] false)).n) H1.n ((H1.push (.cells [.int .i64 0, .int .i64 0] false)).n) (decide (x16 < 0)) H13)
/- 19 congou/deals.Product$1 -/
def ret19 : Unit → AV := fun _ => .tup []
noncomputable def r19 (a0_0 : Int) (a0_1 : Int) (a0_2 : Int) (a0_3 : Int) (c0 : Nat) (c1 : Nat) (c2 : Nat) (H : Hp) : Option (Unit × Hp) :=
  lt (H.push (.cells [.int .i64 a0_0, .int .i64 a0_1, .int .i64 a0_2, .int .i64 a0_3] false)) fun H1 =>
  (H1.ldI .i64 H.n 0).bind fun x2 =>
  (H1.ldI .i64 H.n (0 + 1)).bind fun x3 =>
  (H1.ldI .i64 H.n (0 + 2)).bind fun x4 =>
  (H1.ldI .i64 H.n (0 + 3)).bind fun x5 =>
  (H1.ldI .i64 c0 0).bind fun x6 =>
  (H1.ldI .i64 c0 (0 + 1)).bind fun x7 =>
  (r20 x2 x3 x4 x5 x6 x7 H0).bind fun p8 =>
  ((H1.push (.cells [.int .i64 0, .int .i64 0] false)).sts H1.n 0 [.int .i64 p8.1.1, .int .i64 p8.1.2]).bind fun H9 =>
  (H9.ldI .i64 H1.n 0).bind fun x10 =>
  (H9.ldI .i64 H1.n (0 + 1)).bind fun x11 =>
  (H9.ldI .i64 c1 0).bind fun x12 =>
  (H9.ldI .i64 c1 (0 + 1)).bind fun x13 =>
  (r21 x10 x11 x12 x13 H0).bind fun p14 =>
  if 0 < p14.1 then
    ((H9.ldI .i64 H.n 0).bind fun x16 =>
    (H9.ldI .i64 H.n (0 + 1)).bind fun x17 =>
    (H9.ldI .i64 H.n (0 + 2)).bind fun x18 =>
    (H9.ldI .i64 H.n (0 + 3)).bind fun x19 =>
    (H9.ldI .i64 H1.n 0).bind fun x20 =>
    (H9.ldI .i64 H1.n (0 + 1)).bind fun x21 =>
    (H9.sts c2 0 [.int .i64 x16, .int .i64 x17, .int .i64 x18, .int .i64 x19]).bind fun H22 =>
    (H22.sts c1 0 [.int .i64 x20, .int .i64 x21]).bind fun H23 =>
    ck (H22.ldI .i64 H1.n 0 = some x20) (
    ck (H22.ldI .i64 H1.n (0 + 1) = some x21) (
    some ((), H23))))
  else
    (some ((), H9))
/- 53 slices.Values[congou/deals.offers,[2]int]$1 -/
def ret53 : Unit → AV := fun _ => .tup []
noncomputable def r53_l0 (app : App) : Nat → AV → Sl → Int → Int → Hp → Option (Unit × Hp)
  | 0, _, _, _, _, _ => none
  | k_ + 1, v1, v2, v3, v4, H => if v4 < v3 then
    (ck ((0 : Int) ≤ v4 ∧ v4 < (v2.len : Int)) (
    (H.ldI .i64 v2.b (v2.o + (v4 : Int).toNat * 2)).bind fun x3 =>
    (H.ldI .i64 v2.b ((v2.o + (v4 : Int).toNat * 2) + 1)).bind fun x4 =>
    ((H.push (.cells [.int .i64 0, .int .i64 0] false)).sts H.n 0 [.int .i64 x3, .int .i64 x4]).bind fun H5 =>
    (H5.ldI .i64 H.n 0).bind fun x6 =>
    (H5.ldI .i64 H.n (0 + 1)).bind fun x7 =>
    (callv app v1 [.agg [.int .i64 x6, .int .i64 x7]] H5).bind fun p8 =>
    (p8.1.asB).bind fun x9 =>
    if x9 = true then
      (r53_l0 app k_ v1 v2 v3 (w64 (v4 + 1)) p8.2)
    else
      (some ((), p8.2))))
  else
    (some ((), H))
noncomputable def r53 (app : App) (a0 : AV) (c0 : Nat) (H : Hp) : Option (Unit × Hp) :=
  (H.ldSl c0 0).bind fun x1 =>
  r53_l0 app FUEL a0 x1 (x1.len : Int) 0 H
end Go.Lt.P5
