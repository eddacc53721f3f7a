/- PRINTED BY A PROGRAM OF OURS: what each function that 'DealsScaled' reaches computes on the abstract heap, and that the translated code does just that. Nothing is asked of the input. -/
import Derived.Test.YtficeemoekikdaaG12R1
set_option linter.unusedVariables false
set_option linter.unusedSimpArgs false
set_option maxRecDepth 100000
set_option maxHeartbeats 4000000
namespace Go.Lt.P5
open Go Go.Lt Go.Proofs
/- 45 congou/congoulaw05.scaled -/
def ret45 : Int × Int × Int × Int → AV := fun r => .agg [.int .i64 r.1, .int .i64 r.2.1, .int .i64 r.2.2.1, .int .i64 r.2.2.2]
noncomputable def r45 (a0_0 : Int) (a0_1 : Int) (a0_2 : Int) (a0_3 : Int) (a1 : Int) (a2 : Int) (H : Hp) : Option ((Int × Int × Int × Int) × Hp) :=
  lt ((H.push (.cells [.int .i64 a0_0, .int .i64 a0_1, .int .i64 a0_2, .int .i64 a0_3] false)).push (.cells [.int .i64 0, .int .i64 0, .int .i64 0, .int .i64 0] false)) fun H1 =>
  (H1.ldI .i64 H.n ((0 + 0) + 0)).bind fun x2 =>
  (H1.ldI .i64 H.n ((0 + 0) + 1)).bind fun x3 =>
  (r43 (w64 (x2 * a1)) x3 H0).bind fun p4 =>
  (H1.ldI .i64 H.n ((0 + 2) + 0)).bind fun x5 =>
  (H1.ldI .i64 H.n ((0 + 2) + 1)).bind fun x6 =>
  (r43 (w64 (x5 * a2)) x6 H0).bind fun p7 =>
  (H1.sts ((H.push (.cells [.int .i64 a0_0, .int .i64 a0_1, .int .i64 a0_2, .int .i64 a0_3] false)).n) 0 [.int .i64 p4.1.1, .int .i64 p4.1.2, .int .i64 p7.1.1, .int .i64 p7.1.2]).bind fun H8 =>
  (H8.ldI .i64 ((H.push (.cells [.int .i64 a0_0, .int .i64 a0_1, .int .i64 a0_2, .int .i64 a0_3] false)).n) 0).bind fun x9 =>
  (H8.ldI .i64 ((H.push (.cells [.int .i64 a0_0, .int .i64 a0_1, .int .i64 a0_2, .int .i64 a0_3] false)).n) (0 + 1)).bind fun x10 =>
  (H8.ldI .i64 ((H.push (.cells [.int .i64 a0_0, .int .i64 a0_1, .int .i64 a0_2, .int .i64 a0_3] false)).n) (0 + 2)).bind fun x11 =>
  (H8.ldI .i64 ((H.push (.cells [.int .i64 a0_0, .int .i64 a0_1, .int .i64 a0_2, .int .i64 a0_3] false)).n) (0 + 3)).bind fun x12 =>
  some ((x9, x10, x11, x12), H8)
/- 12 congou/congoulaw05.DealsScaled -/
def ret12 : Bool → AV := fun r => .bool r
noncomputable def r12_j1 (app : App) (v1 : Int) (v2 : Int) (v3 : Nat) (v4 : Bool) (v5 : Nat) (v6 : Bool) (H : Hp) : Option (Bool × Hp) :=
  if v6 = true then
    (some (false, H))
  else
    (if v4 = true then
      ((H.ldI .i64 v3 (0 + (0 : Int).toNat * 4)).bind fun x3 =>
      (H.ldI .i64 v3 ((0 + (0 : Int).toNat * 4) + 1)).bind fun x4 =>
      (H.ldI .i64 v3 ((0 + (0 : Int).toNat * 4) + 2)).bind fun x5 =>
      (H.ldI .i64 v3 ((0 + (0 : Int).toNat * 4) + 3)).bind fun x6 =>
      (r45 x3 x4 x5 x6 v1 v2 H0).bind fun p7 =>
      (H.ldI .i64 v5 (0 + (0 : Int).toNat * 4)).bind fun x8 =>
      (H.ldI .i64 v5 ((0 + (0 : Int).toNat * 4) + 1)).bind fun x9 =>
      (H.ldI .i64 v5 ((0 + (0 : Int).toNat * 4) + 2)).bind fun x10 =>
      (H.ldI .i64 v5 ((0 + (0 : Int).toNat * 4) + 3)).bind fun x11 =>
      if (((p7.1.1 == x8) && (p7.1.2.1 == x9)) && ((p7.1.2.2.1 == x10) && (p7.1.2.2.2 == x11))) = true then
        ((H.ldI .i64 v3 (0 + (1 : Int).toNat * 4)).bind fun x13 =>
        (H.ldI .i64 v3 ((0 + (1 : Int).toNat * 4) + 1)).bind fun x14 =>
        (H.ldI .i64 v3 ((0 + (1 : Int).toNat * 4) + 2)).bind fun x15 =>
        (H.ldI .i64 v3 ((0 + (1 : Int).toNat * 4) + 3)).bind fun x16 =>
        (r45 x13 x14 x15 x16 v1 v2 H0).bind fun p17 =>
        (H.ldI .i64 v5 (0 + (1 : Int).toNat * 4)).bind fun x18 =>
        (H.ldI .i64 v5 ((0 + (1 : Int).toNat * 4) + 1)).bind fun x19 =>
        (H.ldI .i64 v5 ((0 + (1 : Int).toNat * 4) + 2)).bind fun x20 =>
        (H.ldI .i64 v5 ((0 + (1 : Int).toNat * 4) + 3)).bind fun x21 =>
        if (((p17.1.1 == x18) && (p17.1.2.1 == x19)) && ((p17.1.2.2.1 == x20) && (p17.1.2.2.2 == x21))) = true then
          ((app 19 [] H).bind fun p23 =>
          (p23.1.asB).bind fun x24 =>
          some (x24, p23.2))
        else
          (some (false, H)))
      else
        (some (false, H)))
    else
      ((app 19 [] H).bind fun p25 =>
      (p25.1.asB).bind fun x26 =>
      some (x26, p25.2)))
noncomputable def r12_j2 (app : App) (v1 : Sl) (v2 : Int) (v3 : Int) (v4 : Nat) (v5 : Sl) (v6 : Nat) (v7 : Bool) (H : Hp) : Option (Bool × Hp) :=
  if v7 = true then
    ((app 19 [] H).bind fun p2 =>
    (p2.1.asB).bind fun x3 =>
    some (x3, p2.2))
  else
    ((H.ldI .i64 v4 0).bind fun x4 =>
    (H.ldI .i64 v4 (0 + 1)).bind fun x5 =>
    (r39 app v1 x4 x5 H).bind fun p6 =>
    ((p6.2.push (.cells [.int .i64 0, .int .i64 0, .int .i64 0, .int .i64 0, .int .i64 0, .int .i64 0, .int .i64 0, .int .i64 0, .int .i64 0, .int .i64 0, .int .i64 0, .int .i64 0] false)).sts p6.2.n 0 [.int .i64 p6.1.1, .int .i64 p6.1.2.1, .int .i64 p6.1.2.2.1, .int .i64 p6.1.2.2.2.1, .int .i64 p6.1.2.2.2.2.1, .int .i64 p6.1.2.2.2.2.2.1, .int .i64 p6.1.2.2.2.2.2.2.1, .int .i64 p6.1.2.2.2.2.2.2.2.1, .int .i64 p6.1.2.2.2.2.2.2.2.2.1, .int .i64 p6.1.2.2.2.2.2.2.2.2.2.1, .int .i64 p6.1.2.2.2.2.2.2.2.2.2.2.1, .int .i64 p6.1.2.2.2.2.2.2.2.2.2.2.2.1]).bind fun H7 =>
    (H7.ldI .i64 v6 0).bind fun x8 =>
    (H7.ldI .i64 v6 (0 + 1)).bind fun x9 =>
    (r39 app v5 x8 x9 H7).bind fun p10 =>
    ((p10.2.push (.cells [.int .i64 0, .int .i64 0, .int .i64 0, .int .i64 0, .int .i64 0, .int .i64 0, .int .i64 0, .int .i64 0, .int .i64 0, .int .i64 0, .int .i64 0, .int .i64 0] false)).sts p10.2.n 0 [.int .i64 p10.1.1, .int .i64 p10.1.2.1, .int .i64 p10.1.2.2.1, .int .i64 p10.1.2.2.2.1, .int .i64 p10.1.2.2.2.2.1, .int .i64 p10.1.2.2.2.2.2.1, .int .i64 p10.1.2.2.2.2.2.2.1, .int .i64 p10.1.2.2.2.2.2.2.2.1, .int .i64 p10.1.2.2.2.2.2.2.2.2.1, .int .i64 p10.1.2.2.2.2.2.2.2.2.2.1, .int .i64 p10.1.2.2.2.2.2.2.2.2.2.2.1, .int .i64 p10.1.2.2.2.2.2.2.2.2.2.2.2.1]).bind fun H11 =>
    if p6.1.2.2.2.2.2.2.2.2.2.2.2.2.2 = true then
      (if p10.1.2.2.2.2.2.2.2.2.2.2.2.2.2 = true then
        (r12_j1 app v2 v3 p6.2.n p6.1.2.2.2.2.2.2.2.2.2.2.2.2.1 p10.2.n (!(p6.1.2.2.2.2.2.2.2.2.2.2.2.2.1 == p10.1.2.2.2.2.2.2.2.2.2.2.2.2.1)) H11)
      else
        (r12_j1 app v2 v3 p6.2.n p6.1.2.2.2.2.2.2.2.2.2.2.2.2.1 p10.2.n true H11))
    else
      (r12_j1 app v2 v3 p6.2.n p6.1.2.2.2.2.2.2.2.2.2.2.2.2.1 p10.2.n true H11))
noncomputable def r12_j0 (app : App) (v1 : Sl) (v2 : Int) (v3 : Int) (v4 : Nat) (v5 : Sl) (v6 : Int) (v7 : Bool) (H : Hp) : Option (Bool × Hp) :=
  if v7 = true then
    (if v6 = 2 then
      ((app 19 [] H).bind fun p3 =>
      (p3.1.asB).bind fun x4 =>
      some (x4, p3.2))
    else
      (if v6 = 4 then
        ((app 19 [] H).bind fun p6 =>
        (p6.1.asB).bind fun x7 =>
        some (x7, p6.2))
      else
        (some (false, H))))
  else
    ((H.ldI .i64 v4 (0 + (0 : Int).toNat * 1)).bind fun x8 =>
    (H.ldI .i64 v4 (0 + (1 : Int).toNat * 1)).bind fun x9 =>
    ((H.push (.cells [.int .i64 0, .int .i64 0] false)).sts H.n 0 [.int .i64 (w64 (x8 * v2)), .int .i64 (w64 (x9 * v3))]).bind fun H10 =>
    (H10.ldI .i64 v4 0).bind fun x11 =>
    (H10.ldI .i64 v4 (0 + 1)).bind fun x12 =>
    (r44 x11 x12 H0).bind fun p13 =>
    if p13.1 = true then
      ((H10.ldI .i64 H.n 0).bind fun x15 =>
      (H10.ldI .i64 H.n (0 + 1)).bind fun x16 =>
      (r44 x15 x16 H0).bind fun p17 =>
      r12_j2 app v1 v2 v3 v4 v5 H.n (!p17.1) H10)
    else
      (r12_j2 app v1 v2 v3 v4 v5 H.n true H10))
noncomputable def r12 (app : App) (a0 : Sl) (a1_0 : Int) (a1_1 : Int) (a2 : Int) (a3 : Int) (H : Hp) : Option (Bool × Hp) :=
  lt (H.push (.cells [.int .i64 a1_0, .int .i64 a1_1] false)) fun H1 =>
  (r24 a0 H1).bind fun p2 =>
  (r33 app p2.1 a2 a3 p2.2).bind fun p3 =>
  if p3.1.2 ≠ 0 then
    (r12_j0 app a0 a2 a3 H.n p3.1.1 p3.1.2 true p3.2)
  else
    ((r26 a0 p3.2).bind fun p5 =>
    if p5.1 = true then
      (if a2 < 1 then
        (r12_j0 app a0 a2 a3 H.n p3.1.1 p3.1.2 true p5.2)
      else
        (if 30 < a2 then
          (r12_j0 app a0 a2 a3 H.n p3.1.1 p3.1.2 true p5.2)
        else
          (if a3 < 1 then
            (r12_j0 app a0 a2 a3 H.n p3.1.1 p3.1.2 true p5.2)
          else
            (r12_j0 app a0 a2 a3 H.n p3.1.1 p3.1.2 (decide (30 < a3)) p5.2))))
    else
      (r12_j0 app a0 a2 a3 H.n p3.1.1 p3.1.2 true p5.2))
/- 60 congou/deals.Scale$1 -/
def ret60 : Int × Int → AV := fun r => .agg [.int .i64 r.1, .int .i64 r.2]
noncomputable def r60 (a0_0 : Int) (a0_1 : Int) (c0 : Nat) (c1 : Nat) (H : Hp) : Option ((Int × Int) × Hp) :=
  lt ((H.push (.cells [.int .i64 a0_0, .int .i64 a0_1] false)).push (.cells [.int .i64 0, .int .i64 0] false)) fun H1 =>
  (H1.ldI .i64 H.n (0 + (0 : Int).toNat * 1)).bind fun x2 =>
  (H1.ldI .i64 c0 0).bind fun x3 =>
  (H1.ldI .i64 H.n (0 + (1 : Int).toNat * 1)).bind fun x4 =>
  (H1.ldI .i64 c1 0).bind fun x5 =>
  (H1.sts ((H.push (.cells [.int .i64 a0_0, .int .i64 a0_1] false)).n) 0 [.int .i64 (w64 (x2 * x3)), .int .i64 (w64 (x4 * x5))]).bind fun H6 =>
  (H6.ldI .i64 ((H.push (.cells [.int .i64 a0_0, .int .i64 a0_1] false)).n) 0).bind fun x7 =>
  (H6.ldI .i64 ((H.push (.cells [.int .i64 a0_0, .int .i64 a0_1] false)).n) (0 + 1)).bind fun x8 =>
  some ((x7, x8), H6)
/- 67 congou/deals.gain -/
def ret67 : Int × Int → AV := fun r => .agg [.int .i64 r.1, .int .i64 r.2]
noncomputable def r67_j0 (v1 : Nat) (v2 : Nat) (v3 : Nat) (v4 : Bool) (H : Hp) : Option ((Int × Int) × Hp) :=
  if v4 = true then
    ((r48 (-1) 1 H0).bind fun p2 =>
    (H.sts v1 0 [.int .i64 p2.1.1, .int .i64 p2.1.2]).bind fun H3 =>
    (H3.ldI .i64 v1 0).bind fun x4 =>
    (H3.ldI .i64 v1 (0 + 1)).bind fun x5 =>
    some ((x4, x5), H3))
  else
    ((H.ldI .i64 v2 (0 + 0)).bind fun x6 =>
    (H.ldI .i64 v3 (0 + 0)).bind fun x7 =>
    (H.ldI .i64 v2 (0 + 1)).bind fun x8 =>
    (H.ldI .i64 v3 (0 + 1)).bind fun x9 =>
    (r48 (w64 (x6 * x7)) (w64 (x8 * x9)) H0).bind fun p10 =>
    (H.sts v1 0 [.int .i64 p10.1.1, .int .i64 p10.1.2]).bind fun H11 =>
    (H11.ldI .i64 v1 0).bind fun x12 =>
    (H11.ldI .i64 v1 (0 + 1)).bind fun x13 =>
    some ((x12, x13), H11))
noncomputable def r67 (a0_0 : Int) (a0_1 : Int) (a0_2 : Int) (a0_3 : Int) (a1_0 : Int) (a1_1 : Int) (H : Hp) : Option ((Int × Int) × Hp) :=
  lt (((H.push (.cells [.int .i64 a0_0, .int .i64 a0_1, .int .i64 a0_2, .int .i64 a0_3] false)).push (.cells [.int .i64 a1_0, .int .i64 a1_1] false)).push (.cells [.int .i64 0, .int .i64 0] false)) fun H1 =>
  (H1.ldI .i64 H.n ((0 + 0) + 0)).bind fun x2 =>
  (H1.ldI .i64 ((H.push (.cells [.int .i64 a0_0, .int .i64 a0_1, .int .i64 a0_2, .int .i64 a0_3] false)).n) (0 + (0 : Int).toNat * 1)).bind fun x3 =>
  (H1.ldI .i64 H.n ((0 + 0) + 1)).bind fun x4 =>
  (H1.ldI .i64 H.n ((0 + 0) + 1)).bind fun x5 =>
  (r48 (w64 (x2 - (w64 (x3 * x4)))) x5 H0).bind fun p6 =>
  (H1.ldI .i64 H.n ((0 + 2) + 0)).bind fun x7 =>
  (H1.ldI .i64 ((H.push (.cells [.int .i64 a0_0, .int .i64 a0_1, .int .i64 a0_2, .int .i64 a0_3] false)).n) (0 + (1 : Int).toNat * 1)).bind fun x8 =>
  (H1.ldI .i64 H.n ((0 + 2) + 1)).bind fun x9 =>
  (H1.ldI .i64 H.n ((0 + 2) + 1)).bind fun x10 =>
  (r48 (w64 (x7 - (w64 (x8 * x9)))) x10 H0).bind fun p11 =>
  (((H1.push (.cells [.int .i64 0, .int .i64 0] false)).push (.cells [.int .i64 0, .int .i64 0] false)).sts H1.n 0 [.int .i64 p6.1.1, .int .i64 p6.1.2]).bind fun H12 =>
  (H12.sts ((H1.push (.cells [.int .i64 0, .int .i64 0] false)).n) 0 [.int .i64 p11.1.1, .int .i64 p11.1.2]).bind fun H13 =>
  (H13.ldI .i64 H1.n (0 + 0)).bind fun x14 =>
  if x14 < 0 then
    (r67_j0 (((H.push (.cells [.int .i64 a0_0, .int .i64 a0_1, .int .i64 a0_2, .int .i64 a0_3] false)).push (.cells [.int .i64 a1_0, .int .i64 a1_1] false)).n) H1.n ((H1.push (.cells [.int .i64 0, .int .i64 0] false)).n) true H13)
  else
    ((H13.ldI .i64 ((H1.push (.cells [.int .i64 0, .int .i64 0] false)).n) (0 + 0)).bind fun x16 =>
    r67_j0 (((H.push (.cells [.int .i64 a0_0, .int .i64 a0_1, .int .i64 a0_2, .int .i64 a0_3] false)).push (.cells [.int .i64 a1_0, .int .i64 a1_1] false)).n) H1.n ((H1.push (.cells [.int .i64 0, .int .i64 0] false)).n) (decide (x16 < 0)) H13)
/- 66 congou/deals.Product$1 -/
def ret66 : Unit → AV := fun _ => .tup []
noncomputable def r66 (a0_0 : Int) (a0_1 : Int) (a0_2 : Int) (a0_3 : Int) (c0 : Nat) (c1 : Nat) (c2 : Nat) (H : Hp) : Option (Unit × Hp) :=
  lt (H.push (.cells [.int .i64 a0_0, .int .i64 a0_1, .int .i64 a0_2, .int .i64 a0_3] false)) fun H1 =>
  (H1.ldI .i64 H.n 0).bind fun x2 =>
  (H1.ldI .i64 H.n (0 + 1)).bind fun x3 =>
  (H1.ldI .i64 H.n (0 + 2)).bind fun x4 =>
  (H1.ldI .i64 H.n (0 + 3)).bind fun x5 =>
  (H1.ldI .i64 c0 0).bind fun x6 =>
  (H1.ldI .i64 c0 (0 + 1)).bind fun x7 =>
  (r67 x2 x3 x4 x5 x6 x7 H0).bind fun p8 =>
  ((H1.push (.cells [.int .i64 0, .int .i64 0] false)).sts H1.n 0 [.int .i64 p8.1.1, .int .i64 p8.1.2]).bind fun H9 =>
  (H9.ldI .i64 H1.n 0).bind fun x10 =>
  (H9.ldI .i64 H1.n (0 + 1)).bind fun x11 =>
  (H9.ldI .i64 c1 0).bind fun x12 =>
  (H9.ldI .i64 c1 (0 + 1)).bind fun x13 =>
  (r68 x10 x11 x12 x13 H0).bind fun p14 =>
  if 0 < p14.1 then
    ((H9.ldI .i64 H.n 0).bind fun x16 =>
    (H9.ldI .i64 H.n (0 + 1)).bind fun x17 =>
    (H9.ldI .i64 H.n (0 + 2)).bind fun x18 =>
    (H9.ldI .i64 H.n (0 + 3)).bind fun x19 =>
    (H9.ldI .i64 H1.n 0).bind fun x20 =>
    (H9.ldI .i64 H1.n (0 + 1)).bind fun x21 =>
    (H9.sts c2 0 [.int .i64 x16, .int .i64 x17, .int .i64 x18, .int .i64 x19]).bind fun H22 =>
    (H22.sts c1 0 [.int .i64 x20, .int .i64 x21]).bind fun H23 =>
    ck (H22.ldI .i64 H1.n 0 = some x20) (
    ck (H22.ldI .i64 H1.n (0 + 1) = some x21) (
    some ((), H23))))
  else
    (some ((), H9))
/- 84 slices.Values[congou/deals.offers,[2]int]$1 -/
def ret84 : Unit → AV := fun _ => .tup []
noncomputable def r84_l0 (app : App) : Nat → AV → Sl → Int → Int → Hp → Option (Unit × Hp)
  | 0, _, _, _, _, _ => none
  | k_ + 1, v1, v2, v3, v4, H => if v4 < v3 then
    (ck ((0 : Int) ≤ v4 ∧ v4 < (v2.len : Int)) (
    (H.ldI .i64 v2.b (v2.o + (v4 : Int).toNat * 2)).bind fun x3 =>
    (H.ldI .i64 v2.b ((v2.o + (v4 : Int).toNat * 2) + 1)).bind fun x4 =>
    ((H.push (.cells [.int .i64 0, .int .i64 0] false)).sts H.n 0 [.int .i64 x3, .int .i64 x4]).bind fun H5 =>
    (H5.ldI .i64 H.n 0).bind fun x6 =>
    (H5.ldI .i64 H.n (0 + 1)).bind fun x7 =>
    (callv app v1 [.agg [.int .i64 x6, .int .i64 x7]] H5).bind fun p8 =>
    (p8.1.asB).bind fun x9 =>
    if x9 = true then
      (r84_l0 app k_ v1 v2 v3 (w64 (v4 + 1)) p8.2)
    else
      (some ((), p8.2))))
  else
    (some ((), H))
noncomputable def r84 (app : App) (a0 : AV) (c0 : Nat) (H : Hp) : Option (Unit × Hp) :=
  (H.ldSl c0 0).bind fun x1 =>
  r84_l0 app FUEL a0 x1 (x1.len : Int) 0 H
end Go.Lt.P5
