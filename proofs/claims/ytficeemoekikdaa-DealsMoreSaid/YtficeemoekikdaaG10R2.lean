/- PRINTED BY A PROGRAM OF OURS: what each function that 'DealsMore' reaches computes on the abstract heap, and that the translated code does just that. Nothing is asked of the input. -/
import Derived.Test.YtficeemoekikdaaG10R1
set_option linter.unusedVariables false
set_option linter.unusedSimpArgs false
set_option maxRecDepth 100000
set_option maxHeartbeats 4000000
namespace Go.Lt.P5
open Go Go.Lt Go.Proofs
/- 10 congou/congoulaw05.DealsMore -/
def ret10 : Bool → AV := fun r => .bool r
noncomputable def r10_j0 (app : App) (v1 : Sl) (v2 : Nat) (v3 : Nat) (v4 : Nat) (v5 : Bool) (v6 : Bool) (H : Hp) : Option (Bool × Hp) :=
  if v6 = true then
    (if v5 = true then
      ((app 19 [] H).bind fun p3 =>
      (p3.1.asB).bind fun x4 =>
      some (x4, p3.2))
    else
      (some (false, H)))
  else
    ((r24 v1 H).bind fun p5 =>
    (p5.2.ldI .i64 v3 0).bind fun x6 =>
    (p5.2.ldI .i64 v3 (0 + 1)).bind fun x7 =>
    (p5.2.apN 2 p5.1 [.int .i64 x6, .int .i64 x7] 1).bind fun x8 =>
    ck (H.ldI .i64 v3 0 = some x6) (
    ck (H.ldI .i64 v3 (0 + 1) = some x7) (
    (r41 x8.1 x8.2).bind fun p11 =>
    (p11.2.ldI .i64 v2 0).bind fun x12 =>
    (p11.2.ldI .i64 v2 (0 + 1)).bind fun x13 =>
    (r40 app p11.1 x12 x13 p11.2).bind fun p14 =>
    ((p14.2.push (.cells [.int .i64 0, .int .i64 0, .int .i64 0, .int .i64 0] false)).sts p14.2.n 0 [.int .i64 p14.1.1, .int .i64 p14.1.2.1, .int .i64 p14.1.2.2.1, .int .i64 p14.1.2.2.2.1]).bind fun H15 =>
    ck (x8.2.ldI .i64 v2 0 = some x12) (
    ck (x8.2.ldI .i64 v2 (0 + 1) = some x13) (
    (r26 x8.1 H15).bind fun p18 =>
    if p18.1 = true then
      (if p14.1.2.2.2.2 = 0 then
        ((p18.2.ldI .i64 p14.2.n 0).bind fun x21 =>
        (p18.2.ldI .i64 p14.2.n (0 + 1)).bind fun x22 =>
        (p18.2.ldI .i64 p14.2.n (0 + 2)).bind fun x23 =>
        (p18.2.ldI .i64 p14.2.n (0 + 3)).bind fun x24 =>
        (r42 x21 x22 x23 x24 p18.2).bind fun p25 =>
        if p25.1 = true then
          ((p25.2.ldI .i64 p14.2.n (0 + 0)).bind fun x27 =>
          (p25.2.ldI .i64 p14.2.n ((0 + 0) + 1)).bind fun x28 =>
          (p25.2.ldI .i64 v4 ((0 + (2 : Int).toNat * 4) + 0)).bind fun x29 =>
          (p25.2.ldI .i64 v4 (((0 + (2 : Int).toNat * 4) + 0) + 1)).bind fun x30 =>
          (r22 x27 x28 x29 x30 H0).bind fun p31 =>
          if p31.1 = true then
            (some (false, p25.2))
          else
            ((p25.2.ldI .i64 p14.2.n (0 + 2)).bind fun x33 =>
            (p25.2.ldI .i64 p14.2.n ((0 + 2) + 1)).bind fun x34 =>
            (p25.2.ldI .i64 v4 ((0 + (2 : Int).toNat * 4) + 2)).bind fun x35 =>
            (p25.2.ldI .i64 v4 (((0 + (2 : Int).toNat * 4) + 2) + 1)).bind fun x36 =>
            (r22 x33 x34 x35 x36 H0).bind fun p37 =>
            if p37.1 = true then
              (some (false, p25.2))
            else
              ((app 19 [] p25.2).bind fun p39 =>
              (p39.1.asB).bind fun x40 =>
              some (x40, p39.2))))
        else
          (some (false, p25.2)))
      else
        (some (false, p18.2)))
    else
      (if p14.1.2.2.2.2 = 2 then
        ((app 19 [] p18.2).bind fun p42 =>
        (p42.1.asB).bind fun x43 =>
        some (x43, p42.2))
      else
        (some (false, p18.2))))))))
noncomputable def r10 (app : App) (a0 : Sl) (a1_0 : Int) (a1_1 : Int) (a2_0 : Int) (a2_1 : Int) (H : Hp) : Option (Bool × Hp) :=
  lt ((H.push (.cells [.int .i64 a1_0, .int .i64 a1_1] false)).push (.cells [.int .i64 a2_0, .int .i64 a2_1] false)) fun H1 =>
  (H1.ldI .i64 H.n 0).bind fun x2 =>
  (H1.ldI .i64 H.n (0 + 1)).bind fun x3 =>
  (r39 app a0 x2 x3 H1).bind fun p4 =>
  ((p4.2.push (.cells [.int .i64 0, .int .i64 0, .int .i64 0, .int .i64 0, .int .i64 0, .int .i64 0, .int .i64 0, .int .i64 0, .int .i64 0, .int .i64 0, .int .i64 0, .int .i64 0] false)).sts p4.2.n 0 [.int .i64 p4.1.1, .int .i64 p4.1.2.1, .int .i64 p4.1.2.2.1, .int .i64 p4.1.2.2.2.1, .int .i64 p4.1.2.2.2.2.1, .int .i64 p4.1.2.2.2.2.2.1, .int .i64 p4.1.2.2.2.2.2.2.1, .int .i64 p4.1.2.2.2.2.2.2.2.1, .int .i64 p4.1.2.2.2.2.2.2.2.2.1, .int .i64 p4.1.2.2.2.2.2.2.2.2.2.1, .int .i64 p4.1.2.2.2.2.2.2.2.2.2.2.1, .int .i64 p4.1.2.2.2.2.2.2.2.2.2.2.2.1]).bind fun H5 =>
  if p4.1.2.2.2.2.2.2.2.2.2.2.2.2.2 = true then
    (r10_j0 app a0 H.n ((H.push (.cells [.int .i64 a1_0, .int .i64 a1_1] false)).n) p4.2.n true (!p4.1.2.2.2.2.2.2.2.2.2.2.2.2.1) H5)
  else
    (r10_j0 app a0 H.n ((H.push (.cells [.int .i64 a1_0, .int .i64 a1_1] false)).n) p4.2.n false true H5)
/- 67 congou/deals.gain -/
def ret67 : Int × Int → AV := fun r => .agg [.int .i64 r.1, .int .i64 r.2]
noncomputable def r67_j0 (v1 : Nat) (v2 : Nat) (v3 : Nat) (v4 : Bool) (H : Hp) : Option ((Int × Int) × Hp) :=
  if v4 = true then
    ((r48 (-1) 1 H0).bind fun p2 =>
    (H.sts v1 0 [.int .i64 p2.1.1, .int .i64 p2.1.2]).bind fun H3 =>
    (H3.ldI .i64 v1 0).bind fun x4 =>
    (H3.ldI .i64 v1 (0 + 1)).bind fun x5 =>
    some ((x4, x5), H3))
  else
    ((H.ldI .i64 v2 (0 + 0)).bind fun x6 =>
    (H.ldI .i64 v3 (0 + 0)).bind fun x7 =>
    (H.ldI .i64 v2 (0 + 1)).bind fun x8 =>
    (H.ldI .i64 v3 (0 + 1)).bind fun x9 =>
    (r48 (w64 (x6 * x7)) (w64 (x8 * x9)) H0).bind fun p10 =>
    (H.sts v1 0 [.int .i64 p10.1.1, .int .i64 p10.1.2]).bind fun H11 =>
    (H11.ldI .i64 v1 0).bind fun x12 =>
    (H11.ldI .i64 v1 (0 + 1)).bind fun x13 =>
    some ((x12, x13), H11))
noncomputable def r67 (a0_0 : Int) (a0_1 : Int) (a0_2 : Int) (a0_3 : Int) (a1_0 : Int) (a1_1 : Int) (H : Hp) : Option ((Int × Int) × Hp) :=
  lt (((H.push (.cells [.int .i64 a0_0, .int .i64 a0_1, .int .i64 a0_2, .int .i64 a0_3] false)).push (.cells [.int .i64 a1_0, .int .i64 a1_1] false)).push (.cells [.int .i64 0, .int .i64 0] false)) fun H1 =>
  (H1.ldI .i64 H.n ((0 + 0) + 0)).bind fun x2 =>
  (H1.ldI .i64 ((H.push (.cells [.int .i64 a0_0, .int .i64 a0_1, .int .i64 a0_2, .int .i64 a0_3] false)).n) (0 + (0 : Int).toNat * 1)).bind fun x3 =>
  (H1.ldI .i64 H.n ((0 + 0) + 1)).bind fun x4 =>
  (H1.ldI .i64 H.n ((0 + 0) + 1)).bind fun x5 =>
  (r48 (w64 (x2 - (w64 (x3 * x4)))) x5 H0).bind fun p6 =>
  (H1.ldI .i64 H.n ((0 + 2) + 0)).bind fun x7 =>
  (H1.ldI .i64 ((H.push (.cells [.int .i64 a0_0, .int .i64 a0_1, .int .i64 a0_2, .int .i64 a0_3] false)).n) (0 + (1 : Int).toNat * 1)).bind fun x8 =>
  (H1.ldI .i64 H.n ((0 + 2) + 1)).bind fun x9 =>
  (H1.ldI .i64 H.n ((0 + 2) + 1)).bind fun x10 =>
  (r48 (w64 (x7 - (w64 (x8 * x9)))) x10 H0).bind fun p11 =>
  (((H1.push (.cells [.int .i64 0, .int .i64 0] false)).push (.cells [.int .i64 0, .int .i64 0] false)).sts H1.n 0 [.int .i64 p6.1.1, .int .i64 p6.1.2]).bind fun H12 =>
  (H12.sts ((H1.push (.cells [.int .i64 0, .int .i64 0] false)).n) 0 [.int .i64 p11.1.1, .int .i64 p11.1.2]).bind fun H13 =>
  (H13.ldI .i64 H1.n (0 + 0)).bind fun x14 =>
  if x14 < 0 then
    (r67_j0 (((H.push (.cells [.int .i64 a0_0, .int .i64 a0_1, .int .i64 a0_2, .int .i64 a0_3] false)).push (.cells [.int .i64 a1_0, .int .i64 a1_1] false)).n) H1.n ((H1.push (.cells [.int .i64 0, .int .i64 0] false)).n) true H13)
  else
    ((H13.ldI .i64 ((H1.push (.cells [.int .i64 0, .int .i64 0] false)).n) (0 + 0)).bind fun x16 =>
    r67_j0 (((H.push (.cells [.int .i64 a0_0, .int .i64 a0_1, .int .i64 a0_2, .int .i64 a0_3] false)).push (.cells [.int .i64 a1_0, .int .i64 a1_1] false)).n) H1.n ((H1.push (.cells [.int .i64 0, .int .i64 0] false)).n) (decide (x16 < 0)) H13)
/- 66 congou/deals.Product$1 -/
def ret66 : Unit → AV := fun _ => .tup []
noncomputable def r66 (a0_0 : Int) (a0_1 : Int) (a0_2 : Int) (a0_3 : Int) (c0 : Nat) (c1 : Nat) (c2 : Nat) (H : Hp) : Option (Unit × Hp) :=
  lt (H.push (.cells [.int .i64 a0_0, .int .i64 a0_1, .int .i64 a0_2, .int .i64 a0_3] false)) fun H1 =>
  (H1.ldI .i64 H.n 0).bind fun x2 =>
  (H1.ldI .i64 H.n (0 + 1)).bind fun x3 =>
  (H1.ldI .i64 H.n (0 + 2)).bind fun x4 =>
  (H1.ldI .i64 H.n (0 + 3)).bind fun x5 =>
  (H1.ldI .i64 c0 0).bind fun x6 =>
  (H1.ldI .i64 c0 (0 + 1)).bind fun x7 =>
  (r67 x2 x3 x4 x5 x6 x7 H0).bind fun p8 =>
  ((H1.push (.cells [.int .i64 0, .int .i64 0] false)).sts H1.n 0 [.int .i64 p8.1.1, .int .i64 p8.1.2]).bind fun H9 =>
  (H9.ldI .i64 H1.n 0).bind fun x10 =>
  (H9.ldI .i64 H1.n (0 + 1)).bind fun x11 =>
  (H9.ldI .i64 c1 0).bind fun x12 =>
  (H9.ldI .i64 c1 (0 + 1)).bind fun x13 =>
  (r68 x10 x11 x12 x13 H0).bind fun p14 =>
  if 0 < p14.1 then
    ((H9.ldI .i64 H.n 0).bind fun x16 =>
    (H9.ldI .i64 H.n (0 + 1)).bind fun x17 =>
    (H9.ldI .i64 H.n (0 + 2)).bind fun x18 =>
    (H9.ldI .i64 H.n (0 + 3)).bind fun x19 =>
    (H9.ldI .i64 H1.n 0).bind fun x20 =>
    (H9.ldI .i64 H1.n (0 + 1)).bind fun x21 =>
    (H9.sts c2 0 [.int .i64 x16, .int .i64 x17, .int .i64 x18, .int .i64 x19]).bind fun H22 =>
    (H22.sts c1 0 [.int .i64 x20, .int .i64 x21]).bind fun H23 =>
    ck (H22.ldI .i64 H1.n 0 = some x20) (
    ck (H22.ldI .i64 H1.n (0 + 1) = some x21) (
    some ((), H23))))
  else
    (some ((), H9))
/- 84 slices.Values[congou/deals.offers,[2]int]$1 -/
def ret84 : Unit → AV := fun _ => .tup []
noncomputable def r84_l0 (app : App) : Nat → AV → Sl → Int → Int → Hp → Option (Unit × Hp)
  | 0, _, _, _, _, _ => none
  | k_ + 1, v1, v2, v3, v4, H => if v4 < v3 then
    (ck ((0 : Int) ≤ v4 ∧ v4 < (v2.len : Int)) (
    (H.ldI .i64 v2.b (v2.o + (v4 : Int).toNat * 2)).bind fun x3 =>
    (H.ldI .i64 v2.b ((v2.o + (v4 : Int).toNat * 2) + 1)).bind fun x4 =>
    ((H.push (.cells [.int .i64 0, .int .i64 0] false)).sts H.n 0 [.int .i64 x3, .int .i64 x4]).bind fun H5 =>
    (H5.ldI .i64 H.n 0).bind fun x6 =>
    (H5.ldI .i64 H.n (0 + 1)).bind fun x7 =>
    (callv app v1 [.agg [.int .i64 x6, .int .i64 x7]] H5).bind fun p8 =>
    (p8.1.asB).bind fun x9 =>
    if x9 = true then
      (r84_l0 app k_ v1 v2 v3 (w64 (v4 + 1)) p8.2)
    else
      (some ((), p8.2))))
  else
    (some ((), H))
noncomputable def r84 (app : App) (a0 : AV) (c0 : Nat) (H : Hp) : Option (Unit × Hp) :=
  (H.ldSl c0 0).bind fun x1 =>
  r84_l0 app FUEL a0 x1 (x1.len : Int) 0 H
end Go.Lt.P5
