/- PRINTED BY A PROGRAM OF OURS: what each function that 'CutsBest' reaches computes on the abstract heap, and that the translated code does just that. Nothing is asked of the input. -/
import Derived.Test.YteefkljbmjjncaaG14R1
set_option linter.unusedVariables false
set_option linter.unusedSimpArgs false
set_option maxRecDepth 100000
set_option maxHeartbeats 4000000
namespace Go.Lt.P2
open Go Go.Lt Go.Proofs
/- 69 (congou/cuts.Side).at -/
def ret69 : Int × Int → AV := fun r => .agg [.int .i64 r.1, .int .i64 r.2]
noncomputable def r69 (a0_0 : Int) (a0_1 : Int) (a0_2 : Int) (a1_0 : Int) (a1_1 : Int) (a1_2 : Int) (a1_3 : Int) (H : Hp) : Option ((Int × Int) × Hp) :=
  lt (((H.push (.cells [.int .i64 a0_0, .int .i64 a0_1, .int .i64 a0_2] false)).push (.cells [.int .i64 a1_0, .int .i64 a1_1, .int .i64 a1_2, .int .i64 a1_3] false)).push (.cells [.int .i64 0, .int .i64 0] false)) fun H1 =>
  (H1.ldI .i64 H.n (0 + 0)).bind fun x2 =>
  (H1.ldI .i64 ((H.push (.cells [.int .i64 a0_0, .int .i64 a0_1, .int .i64 a0_2] false)).n) (0 + 0)).bind fun x3 =>
  (H1.ldI .i64 ((H.push (.cells [.int .i64 a0_0, .int .i64 a0_1, .int .i64 a0_2] false)).n) ((0 + 0) + 1)).bind fun x4 =>
  (r99 x2 x3 x4 H0).bind fun p5 =>
  (H1.ldI .i64 H.n (0 + 1)).bind fun x6 =>
  (H1.ldI .i64 ((H.push (.cells [.int .i64 a0_0, .int .i64 a0_1, .int .i64 a0_2] false)).n) (0 + 2)).bind fun x7 =>
  (H1.ldI .i64 ((H.push (.cells [.int .i64 a0_0, .int .i64 a0_1, .int .i64 a0_2] false)).n) ((0 + 2) + 1)).bind fun x8 =>
  (r99 x6 x7 x8 H0).bind fun p9 =>
  (r98 p5.1.1 p5.1.2 p9.1.1 p9.1.2 H0).bind fun p10 =>
  (H1.sts (((H.push (.cells [.int .i64 a0_0, .int .i64 a0_1, .int .i64 a0_2] false)).push (.cells [.int .i64 a1_0, .int .i64 a1_1, .int .i64 a1_2, .int .i64 a1_3] false)).n) 0 [.int .i64 p10.1.1, .int .i64 p10.1.2]).bind fun H11 =>
  (H11.ldI .i64 (((H.push (.cells [.int .i64 a0_0, .int .i64 a0_1, .int .i64 a0_2] false)).push (.cells [.int .i64 a1_0, .int .i64 a1_1, .int .i64 a1_2, .int .i64 a1_3] false)).n) 0).bind fun x12 =>
  (H11.ldI .i64 (((H.push (.cells [.int .i64 a0_0, .int .i64 a0_1, .int .i64 a0_2] false)).push (.cells [.int .i64 a1_0, .int .i64 a1_1, .int .i64 a1_2, .int .i64 a1_3] false)).n) (0 + 1)).bind fun x13 =>
  some ((x12, x13), H11)
/- 55 congou/cuts.Bound -/
def ret55 : Int × Int × Int → AV := fun r => .tup [.agg [.int .i64 r.1, .int .i64 r.2.1], .int .i64 r.2.2]
noncomputable def r55_l0 (app : App) : Nat → Int → Int → Nat → Nat → Sl → Int → Int → Hp → Option ((Int × Int × Int) × Hp)
  | 0, _, _, _, _, _, _, _, _ => none
  | k_ + 1, v1, v2, v3, v4, v5, v6, v7, H => if v7 < v6 then
    (ck ((0 : Int) ≤ v7 ∧ v7 < (v5.len : Int)) (
    (H.ldI .i64 v5.b (v5.o + (v7 : Int).toNat * 4)).bind fun x3 =>
    (H.ldI .i64 v5.b ((v5.o + (v7 : Int).toNat * 4) + 1)).bind fun x4 =>
    (H.ldI .i64 v5.b ((v5.o + (v7 : Int).toNat * 4) + 2)).bind fun x5 =>
    (H.ldI .i64 v5.b ((v5.o + (v7 : Int).toNat * 4) + 3)).bind fun x6 =>
    ((H.push (.cells [.int .i64 0, .int .i64 0, .int .i64 0, .int .i64 0] false)).sts H.n 0 [.int .i64 x3, .int .i64 x4, .int .i64 x5, .int .i64 x6]).bind fun H7 =>
    (H7.ldI .i64 H.n 0).bind fun x8 =>
    (H7.ldI .i64 H.n (0 + 1)).bind fun x9 =>
    (H7.ldI .i64 H.n (0 + 2)).bind fun x10 =>
    (H7.ldI .i64 H.n (0 + 3)).bind fun x11 =>
    (r69 v1 v2 0 x8 x9 x10 x11 H0).bind fun p12 =>
    ((H7.push (.cells [.int .i64 0, .int .i64 0] false)).sts H7.n 0 [.int .i64 p12.1.1, .int .i64 p12.1.2]).bind fun H13 =>
    (H13.ldI .i64 H7.n 0).bind fun x14 =>
    (H13.ldI .i64 H7.n (0 + 1)).bind fun x15 =>
    (H13.ldI .i64 v4 0).bind fun x16 =>
    (H13.ldI .i64 v4 (0 + 1)).bind fun x17 =>
    (r89 x14 x15 x16 x17 H0).bind fun p18 =>
    if 0 < p18.1 then
      ((H13.ldI .i64 H7.n 0).bind fun x20 =>
      (H13.ldI .i64 H7.n (0 + 1)).bind fun x21 =>
      (H13.sts v4 0 [.int .i64 x20, .int .i64 x21]).bind fun H22 =>
      r55_l0 app k_ v1 v2 v3 v4 v5 v6 (w64 (v7 + 1)) H22)
    else
      (r55_l0 app k_ v1 v2 v3 v4 v5 v6 (w64 (v7 + 1)) H13)))
  else
    ((H.ldI .i64 v4 0).bind fun x23 =>
    (H.ldI .i64 v4 (0 + 1)).bind fun x24 =>
    (H.sts v3 0 [.int .i64 x23, .int .i64 x24]).bind fun H25 =>
    (H25.ldI .i64 v3 0).bind fun x26 =>
    (H25.ldI .i64 v3 (0 + 1)).bind fun x27 =>
    some ((x26, x27, 0), H25))
noncomputable def r55_j1 (app : App) (v1 : Sl) (v2 : Int) (v3 : Int) (v4 : Nat) (v5 : Bool) (H : Hp) : Option ((Int × Int × Int) × Hp) :=
  if v5 = true then
    ((H.sts v4 0 [.int .i64 0, .int .i64 0]).bind fun H2 =>
    (H2.ldI .i64 v4 0).bind fun x3 =>
    (H2.ldI .i64 v4 (0 + 1)).bind fun x4 =>
    some ((x3, x4, 2), H2))
  else
    ((r51 app v1 H).bind fun p5 =>
    if (p5.1.1.len : Int) = 0 then
      ((p5.2.sts v4 0 [.int .i64 0, .int .i64 0]).bind fun H7 =>
      (H7.ldI .i64 v4 0).bind fun x8 =>
      (H7.ldI .i64 v4 (0 + 1)).bind fun x9 =>
      some ((x8, x9, 4), H7))
    else
      (ck ((0 : Int) ≤ 0 ∧ 0 < (p5.1.1.len : Int)) (
      (p5.2.ldI .i64 p5.1.1.b (p5.1.1.o + (0 : Int).toNat * 4)).bind fun x11 =>
      (p5.2.ldI .i64 p5.1.1.b ((p5.1.1.o + (0 : Int).toNat * 4) + 1)).bind fun x12 =>
      (p5.2.ldI .i64 p5.1.1.b ((p5.1.1.o + (0 : Int).toNat * 4) + 2)).bind fun x13 =>
      (p5.2.ldI .i64 p5.1.1.b ((p5.1.1.o + (0 : Int).toNat * 4) + 3)).bind fun x14 =>
      (r69 v2 v3 0 x11 x12 x13 x14 H0).bind fun p15 =>
      ((p5.2.push (.cells [.int .i64 0, .int .i64 0] false)).sts p5.2.n 0 [.int .i64 p15.1.1, .int .i64 p15.1.2]).bind fun H16 =>
      ck (((0 : Int) ≤ 1 ∧ 1 ≤ (p5.1.1.len : Int) ∧ (p5.1.1.len : Int) ≤ (p5.1.1.cap : Int)) ∧ (p5.1.1.opn = 0 ∨ p5.1.1.opn = 4)) (
      r55_l0 app FUEL v2 v3 v4 p5.2.n (p5.1.1.cut 4 (1 : Int).toNat ((p5.1.1.len : Int) : Int).toNat) ((p5.1.1.cut 4 (1 : Int).toNat ((p5.1.1.len : Int) : Int).toNat).len : Int) 0 H16))))
noncomputable def r55 (app : App) (a0 : Sl) (a1 : Int) (a2 : Int) (H : Hp) : Option ((Int × Int × Int) × Hp) :=
  lt (H.push (.cells [.int .i64 0, .int .i64 0] false)) fun H1 =>
  (r63 app a0 H1).bind fun p2 =>
  if p2.1 = true then
    ((r79 app 9 ⟨false, p2.2.n, 0, 2, 2, 0⟩ (p2.2.push (.cells [.int .i64 a1, .int .i64 a2] false))).bind fun p4 =>
    r55_j1 app a0 a1 a2 H.n (!p4.1) p4.2)
  else
    (r55_j1 app a0 a1 a2 H.n true p2.2)
/- 58 congou/congoulaw02.none -/
def ret58 : Bool → AV := fun r => .bool r
noncomputable def r58 (a0_0 : Int) (a0_1 : Int) (H : Hp) : Option (Bool × Hp) :=
  lt (H.push (.cells [.int .i64 a0_0, .int .i64 a0_1] false)) fun H1 =>
  (H1.ldI .i64 H.n 0).bind fun x2 =>
  (H1.ldI .i64 H.n (0 + 1)).bind fun x3 =>
  some (((x2 == 0) && (x3 == 0)), H1)
/- 59 congou/congouref02.Best -/
def ret59 : Int × Int → AV := fun r => .tup [.int .i64 r.1, .int .i64 r.2]
noncomputable def r59_l0 : Nat → Int → Int → Int → Sl → Int → Int → Hp → Option ((Int × Int) × Hp)
  | 0, _, _, _, _, _, _, _ => none
  | k_ + 1, v1, v2, v3, v4, v5, v6, H => if v6 < v5 then
    (ck ((0 : Int) ≤ v6 ∧ v6 < (v4.len : Int)) (
    (H.ldI .i64 v4.b (v4.o + (v6 : Int).toNat * 2)).bind fun x3 =>
    (H.ldI .i64 v4.b ((v4.o + (v6 : Int).toNat * 2) + 1)).bind fun x4 =>
    ((H.push (.cells [.int .i64 0, .int .i64 0] false)).sts H.n 0 [.int .i64 x3, .int .i64 x4]).bind fun H5 =>
    (H5.ldI .i64 H.n (0 + (0 : Int).toNat * 1)).bind fun x6 =>
    (H5.ldI .i64 H.n (0 + (1 : Int).toNat * 1)).bind fun x7 =>
    r59_l0 k_ v1 v2 (if v3 < (w64 ((w64 (v1 * x6)) + (w64 (v2 * x7)))) then (w64 ((w64 (v1 * x6)) + (w64 (v2 * x7)))) else v3) v4 v5 (w64 (v6 + 1)) H5))
  else
    (some ((v3, 0), H))
noncomputable def r59 (a0 : Sl) (a1 : Int) (a2 : Int) (H : Hp) : Option ((Int × Int) × Hp) :=
  if (a0.len : Int) = 0 then
    (some ((0, 4), H))
  else
    (ck ((0 : Int) ≤ 0 ∧ 0 < (a0.len : Int)) (
    (H.ldI .i64 a0.b ((a0.o + (0 : Int).toNat * 2) + (0 : Int).toNat * 1)).bind fun x3 =>
    ck ((0 : Int) ≤ 0 ∧ 0 < (a0.len : Int)) (
    (H.ldI .i64 a0.b ((a0.o + (0 : Int).toNat * 2) + (1 : Int).toNat * 1)).bind fun x5 =>
    r59_l0 FUEL a1 a2 (w64 ((w64 (a1 * x3)) + (w64 (a2 * x5)))) a0 (a0.len : Int) 0 H)))
/- 60 congou/congouref02.Bound -/
def ret60 : Int × Int × Int → AV := fun r => .tup [.agg [.int .i64 r.1, .int .i64 r.2.1], .int .i64 r.2.2]
noncomputable def r60_j1 (kt0 : Int → Int → Nat → Nat → Sl → Int → Int → Hp → Option ((Int × Int × Int) × Hp)) (v1 : Int) (v2 : Int) (v3 : Nat) (v4 : Nat) (v5 : Nat) (v6 : Sl) (v7 : Int) (v8 : Int) (v9 : Bool) (H : Hp) : Option ((Int × Int × Int) × Hp) :=
  if v9 = true then
    ((H.ldI .i64 v5 0).bind fun x2 =>
    (H.ldI .i64 v5 (0 + 1)).bind fun x3 =>
    (H.sts v4 0 [.int .i64 x2, .int .i64 x3]).bind fun H4 =>
    kt0 v1 v2 v3 v4 v6 v7 (w64 (v8 + 1)) H4)
  else
    (kt0 v1 v2 v3 v4 v6 v7 (w64 (v8 + 1)) H)
noncomputable def r60_l0 : Nat → Int → Int → Nat → Nat → Sl → Int → Int → Hp → Option ((Int × Int × Int) × Hp)
  | 0, _, _, _, _, _, _, _, _ => none
  | k_ + 1, v1, v2, v3, v4, v5, v6, v7, H => if v7 < v6 then
    (ck ((0 : Int) ≤ v7 ∧ v7 < (v5.len : Int)) (
    (H.ldI .i64 v5.b (v5.o + (v7 : Int).toNat * 4)).bind fun x3 =>
    (H.ldI .i64 v5.b ((v5.o + (v7 : Int).toNat * 4) + 1)).bind fun x4 =>
    (H.ldI .i64 v5.b ((v5.o + (v7 : Int).toNat * 4) + 2)).bind fun x5 =>
    (H.ldI .i64 v5.b ((v5.o + (v7 : Int).toNat * 4) + 3)).bind fun x6 =>
    ((H.push (.cells [.int .i64 0, .int .i64 0, .int .i64 0, .int .i64 0] false)).sts H.n 0 [.int .i64 x3, .int .i64 x4, .int .i64 x5, .int .i64 x6]).bind fun H7 =>
    (H7.ldI .i64 H.n ((0 + 0) + 0)).bind fun x8 =>
    (H7.ldI .i64 H.n ((0 + 2) + 1)).bind fun x9 =>
    (H7.ldI .i64 H.n ((0 + 2) + 0)).bind fun x10 =>
    (H7.ldI .i64 H.n ((0 + 0) + 1)).bind fun x11 =>
    (H7.ldI .i64 H.n ((0 + 0) + 1)).bind fun x12 =>
    (H7.ldI .i64 H.n ((0 + 2) + 1)).bind fun x13 =>
    (r56 (w64 ((w64 ((w64 (v1 * x8)) * x9)) + (w64 ((w64 (v2 * x10)) * x11)))) (w64 (x12 * x13)) H0).bind fun p14 =>
    ((H7.push (.cells [.int .i64 0, .int .i64 0] false)).sts H7.n 0 [.int .i64 p14.1.1, .int .i64 p14.1.2]).bind fun H15 =>
    if v7 = 0 then
      (r60_j1 (fun v1_ v2_ v3_ v4_ v5_ v6_ v7_ H_ => r60_l0 k_ v1_ v2_ v3_ v4_ v5_ v6_ v7_ H_) v1 v2 v3 v4 H7.n v5 v6 v7 true H15)
    else
      ((H15.ldI .i64 v4 0).bind fun x17 =>
      (H15.ldI .i64 v4 (0 + 1)).bind fun x18 =>
      (H15.ldI .i64 H7.n 0).bind fun x19 =>
      (H15.ldI .i64 H7.n (0 + 1)).bind fun x20 =>
      (r57 x17 x18 x19 x20 H0).bind fun p21 =>
      r60_j1 (fun v1_ v2_ v3_ v4_ v5_ v6_ v7_ H_ => r60_l0 k_ v1_ v2_ v3_ v4_ v5_ v6_ v7_ H_) v1 v2 v3 v4 H7.n v5 v6 v7 p21.1 H15)))
  else
    ((H.ldI .i64 v4 0).bind fun x22 =>
    (H.ldI .i64 v4 (0 + 1)).bind fun x23 =>
    (H.sts v3 0 [.int .i64 x22, .int .i64 x23]).bind fun H24 =>
    (H24.ldI .i64 v3 0).bind fun x25 =>
    (H24.ldI .i64 v3 (0 + 1)).bind fun x26 =>
    some ((x25, x26, 0), H24))
noncomputable def r60 (a0 : Sl) (a1 : Int) (a2 : Int) (H : Hp) : Option ((Int × Int × Int) × Hp) :=
  lt (H.push (.cells [.int .i64 0, .int .i64 0] false)) fun H1 =>
  if (a0.len : Int) = 0 then
    ((H1.sts H.n 0 [.int .i64 0, .int .i64 0]).bind fun H3 =>
    (H3.ldI .i64 H.n 0).bind fun x4 =>
    (H3.ldI .i64 H.n (0 + 1)).bind fun x5 =>
    some ((x4, x5, 4), H3))
  else
    (lt (H1.push (.cells [.int .i64 0, .int .i64 0] false)) fun H6 =>
    r60_l0 FUEL a1 a2 H.n H1.n a0 (a0.len : Int) 0 H6)
/- 14 congou/congoulaw02.CutsBest -/
def ret14 : Bool → AV := fun r => .bool r
noncomputable def r14_j0 (app : App) (v1 : Sl) (v2 : Int) (v3 : Int) (v4 : Int) (v5 : Int) (v6 : Nat) (v7 : Int) (v8 : Bool) (H : Hp) : Option (Bool × Hp) :=
  if v8 = true then
    (if v4 = 0 then
      ((H.ldI .i64 v6 0).bind fun x3 =>
      (H.ldI .i64 v6 (0 + 1)).bind fun x4 =>
      (r58 x3 x4 H0).bind fun p5 =>
      if p5.1 = true then
        (if v5 = 2 then
          (if v7 = 2 then
            ((app 21 [] H).bind fun p9 =>
            (p9.1.asB).bind fun x10 =>
            some (x10, p9.2))
          else
            (some (false, H)))
        else
          (some (false, H)))
      else
        (some (false, H)))
    else
      (some (false, H)))
  else
    ((r25 v1 H).bind fun p11 =>
    (r59 p11.1 v2 v3 p11.2).bind fun p12 =>
    (r54 v1 p12.2).bind fun p13 =>
    (r60 p13.1 v2 v3 p13.2).bind fun p14 =>
    ((p14.2.push (.cells [.int .i64 0, .int .i64 0] false)).sts p14.2.n 0 [.int .i64 p14.1.1, .int .i64 p14.1.2.1]).bind fun H15 =>
    if v4 = p12.1.1 then
      (if v5 = p12.1.2 then
        ((H15.ldI .i64 v6 0).bind fun x18 =>
        (H15.ldI .i64 v6 (0 + 1)).bind fun x19 =>
        (H15.ldI .i64 p14.2.n 0).bind fun x20 =>
        (H15.ldI .i64 p14.2.n (0 + 1)).bind fun x21 =>
        if ((x18 == x20) && (x19 == x21)) = true then
          (if v7 = p14.1.2.2 then
            ((app 21 [] H15).bind fun p24 =>
            (p24.1.asB).bind fun x25 =>
            some (x25, p24.2))
          else
            (some (false, H15)))
        else
          (some (false, H15)))
      else
        (some (false, H15)))
    else
      (some (false, H15)))
noncomputable def r14 (app : App) (a0 : Sl) (a1 : Int) (a2 : Int) (H : Hp) : Option (Bool × Hp) :=
  (r18 a0 H).bind fun p1 =>
  (r42 app p1.1 a1 a2 p1.2).bind fun p2 =>
  (r18 a0 p2.2).bind fun p3 =>
  (r55 app p3.1 a1 a2 p3.2).bind fun p4 =>
  ((p4.2.push (.cells [.int .i64 0, .int .i64 0] false)).sts p4.2.n 0 [.int .i64 p4.1.1, .int .i64 p4.1.2.1]).bind fun H5 =>
  (r19 a0 H5).bind fun p6 =>
  if p6.1 = true then
    ((r48 a1 a2 H0).bind fun p8 =>
    r14_j0 app a0 a1 a2 p2.1.1 p2.1.2 p4.2.n p4.1.2.2 (!p8.1) p6.2)
  else
    (r14_j0 app a0 a1 a2 p2.1.1 p2.1.2 p4.2.n p4.1.2.2 true p6.2)
/- 97 congou/cuts.cross -/
def ret97 : Int → AV := fun r => .int .i64 r
noncomputable def r97 (a0 : Int) (a1 : Int) (a2 : Int) (a3 : Int) (H : Hp) : Option (Int × Hp) :=
  some (w64 ((w64 (a0 * a3)) - (w64 (a1 * a2))), H)
/- 96 (congou/cuts.Side).meet -/
def ret96 : Int × Int × Int × Int × Bool → AV := fun r => .tup [.agg [.int .i64 r.1, .int .i64 r.2.1, .int .i64 r.2.2.1, .int .i64 r.2.2.2.1], .bool r.2.2.2.2]
noncomputable def r96 (a0_0 : Int) (a0_1 : Int) (a0_2 : Int) (a1_0 : Int) (a1_1 : Int) (a1_2 : Int) (H : Hp) : Option ((Int × Int × Int × Int × Bool) × Hp) :=
  lt (((H.push (.cells [.int .i64 a0_0, .int .i64 a0_1, .int .i64 a0_2] false)).push (.cells [.int .i64 a1_0, .int .i64 a1_1, .int .i64 a1_2] false)).push (.cells [.int .i64 0, .int .i64 0, .int .i64 0, .int .i64 0] false)) fun H1 =>
  (H1.ldI .i64 H.n (0 + 0)).bind fun x2 =>
  (H1.ldI .i64 H.n (0 + 1)).bind fun x3 =>
  (H1.ldI .i64 ((H.push (.cells [.int .i64 a0_0, .int .i64 a0_1, .int .i64 a0_2] false)).n) (0 + 0)).bind fun x4 =>
  (H1.ldI .i64 ((H.push (.cells [.int .i64 a0_0, .int .i64 a0_1, .int .i64 a0_2] false)).n) (0 + 1)).bind fun x5 =>
  (r97 x2 x3 x4 x5 H0).bind fun p6 =>
  if p6.1 = 0 then
    ((H1.sts (((H.push (.cells [.int .i64 a0_0, .int .i64 a0_1, .int .i64 a0_2] false)).push (.cells [.int .i64 a1_0, .int .i64 a1_1, .int .i64 a1_2] false)).n) 0 [.int .i64 0, .int .i64 0, .int .i64 0, .int .i64 0]).bind fun H8 =>
    (H8.ldI .i64 (((H.push (.cells [.int .i64 a0_0, .int .i64 a0_1, .int .i64 a0_2] false)).push (.cells [.int .i64 a1_0, .int .i64 a1_1, .int .i64 a1_2] false)).n) 0).bind fun x9 =>
    (H8.ldI .i64 (((H.push (.cells [.int .i64 a0_0, .int .i64 a0_1, .int .i64 a0_2] false)).push (.cells [.int .i64 a1_0, .int .i64 a1_1, .int .i64 a1_2] false)).n) (0 + 1)).bind fun x10 =>
    (H8.ldI .i64 (((H.push (.cells [.int .i64 a0_0, .int .i64 a0_1, .int .i64 a0_2] false)).push (.cells [.int .i64 a1_0, .int .i64 a1_1, .int .i64 a1_2] false)).n) (0 + 2)).bind fun x11 =>
    (H8.ldI .i64 (((H.push (.cells [.int .i64 a0_0, .int .i64 a0_1, .int .i64 a0_2] false)).push (.cells [.int .i64 a1_0, .int .i64 a1_1, .int .i64 a1_2] false)).n) (0 + 3)).bind fun x12 =>
    some ((x9, x10, x11, x12, false), H8))
  else
    ((H1.ldI .i64 H.n (0 + 2)).bind fun x13 =>
    (H1.ldI .i64 ((H.push (.cells [.int .i64 a0_0, .int .i64 a0_1, .int .i64 a0_2] false)).n) (0 + 1)).bind fun x14 =>
    (H1.ldI .i64 ((H.push (.cells [.int .i64 a0_0, .int .i64 a0_1, .int .i64 a0_2] false)).n) (0 + 2)).bind fun x15 =>
    (H1.ldI .i64 H.n (0 + 1)).bind fun x16 =>
    (r100 (w64 ((w64 (x13 * x14)) - (w64 (x15 * x16)))) p6.1 H0).bind fun p17 =>
    (H1.ldI .i64 H.n (0 + 0)).bind fun x18 =>
    (H1.ldI .i64 ((H.push (.cells [.int .i64 a0_0, .int .i64 a0_1, .int .i64 a0_2] false)).n) (0 + 2)).bind fun x19 =>
    (H1.ldI .i64 ((H.push (.cells [.int .i64 a0_0, .int .i64 a0_1, .int .i64 a0_2] false)).n) (0 + 0)).bind fun x20 =>
    (H1.ldI .i64 H.n (0 + 2)).bind fun x21 =>
    (r100 (w64 ((w64 (x18 * x19)) - (w64 (x20 * x21)))) p6.1 H0).bind fun p22 =>
    (H1.sts (((H.push (.cells [.int .i64 a0_0, .int .i64 a0_1, .int .i64 a0_2] false)).push (.cells [.int .i64 a1_0, .int .i64 a1_1, .int .i64 a1_2] false)).n) 0 [.int .i64 p17.1.1, .int .i64 p17.1.2, .int .i64 p22.1.1, .int .i64 p22.1.2]).bind fun H23 =>
    (H23.ldI .i64 (((H.push (.cells [.int .i64 a0_0, .int .i64 a0_1, .int .i64 a0_2] false)).push (.cells [.int .i64 a1_0, .int .i64 a1_1, .int .i64 a1_2] false)).n) 0).bind fun x24 =>
    (H23.ldI .i64 (((H.push (.cells [.int .i64 a0_0, .int .i64 a0_1, .int .i64 a0_2] false)).push (.cells [.int .i64 a1_0, .int .i64 a1_1, .int .i64 a1_2] false)).n) (0 + 1)).bind fun x25 =>
    (H23.ldI .i64 (((H.push (.cells [.int .i64 a0_0, .int .i64 a0_1, .int .i64 a0_2] false)).push (.cells [.int .i64 a1_0, .int .i64 a1_1, .int .i64 a1_2] false)).n) (0 + 2)).bind fun x26 =>
    (H23.ldI .i64 (((H.push (.cells [.int .i64 a0_0, .int .i64 a0_1, .int .i64 a0_2] false)).push (.cells [.int .i64 a1_0, .int .i64 a1_1, .int .i64 a1_2] false)).n) (0 + 3)).bind fun x27 =>
    some ((x24, x25, x26, x27, true), H23))
/- 66 (congou/cuts.plate).corners -/
def ret66 : Unit → AV := fun _ => .tup []
noncomputable def r66_j2 (app : App) (kt1 : Sl → AV → Nat → Sl → Int → Int → Sl → Int → Int → Hp → Option (Unit × Hp)) (v1 : Sl) (v2 : AV) (v3 : Nat) (v4 : Sl) (v5 : Int) (v6 : Int) (v7 : Sl) (v8 : Int) (v9 : Int) (v10 : Bool) (H : Hp) : Option (Unit × Hp) :=
  if v10 = true then
    (some ((), H))
  else
    (kt1 v1 v2 v3 v4 v5 v6 v7 v8 (w64 (v9 + 1)) H)
noncomputable def r66_l1 (app : App) (kt0 : Sl → AV → Sl → Int → Int → Hp → Option (Unit × Hp)) : Nat → Sl → AV → Nat → Sl → Int → Int → Sl → Int → Int → Hp → Option (Unit × Hp)
  | 0, _, _, _, _, _, _, _, _, _, _ => none
  | k_ + 1, v1, v2, v3, v4, v5, v6, v7, v8, v9, H => if v9 < v8 then
    (ck ((0 : Int) ≤ v9 ∧ v9 < (v7.len : Int)) (
    (H.ldI .i64 v7.b (v7.o + (v9 : Int).toNat * 3)).bind fun x3 =>
    (H.ldI .i64 v7.b ((v7.o + (v9 : Int).toNat * 3) + 1)).bind fun x4 =>
    (H.ldI .i64 v7.b ((v7.o + (v9 : Int).toNat * 3) + 2)).bind fun x5 =>
    ((H.push (.cells [.int .i64 0, .int .i64 0, .int .i64 0] false)).sts H.n 0 [.int .i64 x3, .int .i64 x4, .int .i64 x5]).bind fun H6 =>
    (H6.ldI .i64 v3 0).bind fun x7 =>
    (H6.ldI .i64 v3 (0 + 1)).bind fun x8 =>
    (H6.ldI .i64 v3 (0 + 2)).bind fun x9 =>
    (H6.ldI .i64 H.n 0).bind fun x10 =>
    (H6.ldI .i64 H.n (0 + 1)).bind fun x11 =>
    (H6.ldI .i64 H.n (0 + 2)).bind fun x12 =>
    (r96 x7 x8 x9 x10 x11 x12 H0).bind fun p13 =>
    ((H6.push (.cells [.int .i64 0, .int .i64 0, .int .i64 0, .int .i64 0] false)).sts H6.n 0 [.int .i64 p13.1.1, .int .i64 p13.1.2.1, .int .i64 p13.1.2.2.1, .int .i64 p13.1.2.2.2.1]).bind fun H14 =>
    if p13.1.2.2.2.2 = true then
      ((H14.ldI .i64 H6.n 0).bind fun x16 =>
      (H14.ldI .i64 H6.n (0 + 1)).bind fun x17 =>
      (H14.ldI .i64 H6.n (0 + 2)).bind fun x18 =>
      (H14.ldI .i64 H6.n (0 + 3)).bind fun x19 =>
      (r65 app v1 x16 x17 x18 x19 H14).bind fun p20 =>
      if p20.1 = true then
        ((p20.2.ldI .i64 H6.n 0).bind fun x22 =>
        (p20.2.ldI .i64 H6.n (0 + 1)).bind fun x23 =>
        (p20.2.ldI .i64 H6.n (0 + 2)).bind fun x24 =>
        (p20.2.ldI .i64 H6.n (0 + 3)).bind fun x25 =>
        (p20.2.ldI .i64 v3 0).bind fun x26 =>
        (p20.2.ldI .i64 v3 (0 + 1)).bind fun x27 =>
        (p20.2.ldI .i64 v3 (0 + 2)).bind fun x28 =>
        (p20.2.ldI .i64 H.n 0).bind fun x29 =>
        (p20.2.ldI .i64 H.n (0 + 1)).bind fun x30 =>
        (p20.2.ldI .i64 H.n (0 + 2)).bind fun x31 =>
        (callv app v2 [.agg [.int .i64 x22, .int .i64 x23, .int .i64 x24, .int .i64 x25, .int .i64 x26, .int .i64 x27, .int .i64 x28, .int .i64 x29, .int .i64 x30, .int .i64 x31]] p20.2).bind fun p32 =>
        (p32.1.asB).bind fun x33 =>
        r66_j2 app (fun v1_ v2_ v3_ v4_ v5_ v6_ v7_ v8_ v9_ H_ => r66_l1 app kt0 k_ v1_ v2_ v3_ v4_ v5_ v6_ v7_ v8_ v9_ H_) v1 v2 v3 v4 v5 v6 v7 v8 v9 (!x33) p32.2)
      else
        (r66_j2 app (fun v1_ v2_ v3_ v4_ v5_ v6_ v7_ v8_ v9_ H_ => r66_l1 app kt0 k_ v1_ v2_ v3_ v4_ v5_ v6_ v7_ v8_ v9_ H_) v1 v2 v3 v4 v5 v6 v7 v8 v9 false p20.2))
    else
      (r66_j2 app (fun v1_ v2_ v3_ v4_ v5_ v6_ v7_ v8_ v9_ H_ => r66_l1 app kt0 k_ v1_ v2_ v3_ v4_ v5_ v6_ v7_ v8_ v9_ H_) v1 v2 v3 v4 v5 v6 v7 v8 v9 false H14)))
  else
    (kt0 v1 v2 v4 v5 (w64 (v6 + 1)) H)
noncomputable def r66_l0 (app : App) : Nat → Sl → AV → Sl → Int → Int → Hp → Option (Unit × Hp)
  | 0, _, _, _, _, _, _ => none
  | k_ + 1, v1, v2, v3, v4, v5, H => if v5 < v4 then
    (ck ((0 : Int) ≤ v5 ∧ v5 < (v3.len : Int)) (
    (H.ldI .i64 v3.b (v3.o + (v5 : Int).toNat * 3)).bind fun x3 =>
    (H.ldI .i64 v3.b ((v3.o + (v5 : Int).toNat * 3) + 1)).bind fun x4 =>
    (H.ldI .i64 v3.b ((v3.o + (v5 : Int).toNat * 3) + 2)).bind fun x5 =>
    ((H.push (.cells [.int .i64 0, .int .i64 0, .int .i64 0] false)).sts H.n 0 [.int .i64 x3, .int .i64 x4, .int .i64 x5]).bind fun H6 =>
    ck (((0 : Int) ≤ 0 ∧ 0 ≤ v5 ∧ v5 ≤ (v1.cap : Int)) ∧ (v1.opn = 0 ∨ v1.opn = 3)) (
    r66_l1 app (fun v1_ v2_ v3_ v4_ v5_ H_ => r66_l0 app k_ v1_ v2_ v3_ v4_ v5_ H_) FUEL v1 v2 H.n v3 v4 v5 (v1.cut 3 (0 : Int).toNat (v5 : Int).toNat) ((v1.cut 3 (0 : Int).toNat (v5 : Int).toNat).len : Int) 0 H6)))
  else
    (some ((), H))
noncomputable def r66 (app : App) (a0 : Sl) (a1 : AV) (H : Hp) : Option (Unit × Hp) :=
  r66_l0 app FUEL a0 a1 a0 (a0.len : Int) 0 H
/- 70 (congou/cuts.Side).keeps -/
def ret70 : Bool → AV := fun r => .bool r
noncomputable def r70 (a0_0 : Int) (a0_1 : Int) (a0_2 : Int) (a1_0 : Int) (a1_1 : Int) (a1_2 : Int) (a1_3 : Int) (H : Hp) : Option (Bool × Hp) :=
  lt ((H.push (.cells [.int .i64 a0_0, .int .i64 a0_1, .int .i64 a0_2] false)).push (.cells [.int .i64 a1_0, .int .i64 a1_1, .int .i64 a1_2, .int .i64 a1_3] false)) fun H1 =>
  (H1.ldI .i64 H.n 0).bind fun x2 =>
  (H1.ldI .i64 H.n (0 + 1)).bind fun x3 =>
  (H1.ldI .i64 H.n (0 + 2)).bind fun x4 =>
  (H1.ldI .i64 ((H.push (.cells [.int .i64 a0_0, .int .i64 a0_1, .int .i64 a0_2] false)).n) 0).bind fun x5 =>
  (H1.ldI .i64 ((H.push (.cells [.int .i64 a0_0, .int .i64 a0_1, .int .i64 a0_2] false)).n) (0 + 1)).bind fun x6 =>
  (H1.ldI .i64 ((H.push (.cells [.int .i64 a0_0, .int .i64 a0_1, .int .i64 a0_2] false)).n) (0 + 2)).bind fun x7 =>
  (H1.ldI .i64 ((H.push (.cells [.int .i64 a0_0, .int .i64 a0_1, .int .i64 a0_2] false)).n) (0 + 3)).bind fun x8 =>
  (r69 x2 x3 x4 x5 x6 x7 x8 H0).bind fun p9 =>
  (H1.ldI .i64 H.n (0 + 2)).bind fun x10 =>
  (r100 x10 1 H0).bind fun p11 =>
  (r89 p9.1.1 p9.1.2 p11.1.1 p11.1.2 H0).bind fun p12 =>
  some ((decide (p12.1 ≤ 0)), H1)
/- 81 congou/cuts.Best$1 -/
def ret81 : Int → AV := fun r => .int .i64 r
noncomputable def r81 (a0_0 : Int) (a0_1 : Int) (c0 : Nat) (c1 : Nat) (H : Hp) : Option (Int × Hp) :=
  lt (H.push (.cells [.int .i64 a0_0, .int .i64 a0_1] false)) fun H1 =>
  (H1.ldI .i64 c0 0).bind fun x2 =>
  (H1.ldI .i64 H.n (0 + (0 : Int).toNat * 1)).bind fun x3 =>
  (H1.ldI .i64 c1 0).bind fun x4 =>
  (H1.ldI .i64 H.n (0 + (1 : Int).toNat * 1)).bind fun x5 =>
  some (w64 ((w64 (x2 * x3)) + (w64 (x4 * x5))), H1)
/- 83 congou/cuts.Best$2 -/
def ret83 : Int → AV := fun r => .int .i64 r
noncomputable def r83 (app : App) (a0_0 : Int) (a0_1 : Int) (a1_0 : Int) (a1_1 : Int) (c0 : Nat) (H : Hp) : Option (Int × Hp) :=
  lt ((H.push (.cells [.int .i64 a0_0, .int .i64 a0_1] false)).push (.cells [.int .i64 a1_0, .int .i64 a1_1] false)) fun H1 =>
  (H1.ldV c0 0).bind fun x2 =>
  (H1.ldI .i64 H.n 0).bind fun x3 =>
  (H1.ldI .i64 H.n (0 + 1)).bind fun x4 =>
  (callv app x2 [.agg [.int .i64 x3, .int .i64 x4]] H1).bind fun p5 =>
  (p5.1.asI .i64).bind fun x6 =>
  (p5.2.ldV c0 0).bind fun x7 =>
  (p5.2.ldI .i64 ((H.push (.cells [.int .i64 a0_0, .int .i64 a0_1] false)).n) 0).bind fun x8 =>
  (p5.2.ldI .i64 ((H.push (.cells [.int .i64 a0_0, .int .i64 a0_1] false)).n) (0 + 1)).bind fun x9 =>
  (callv app x7 [.agg [.int .i64 x8, .int .i64 x9]] p5.2).bind fun p10 =>
  (p10.1.asI .i64).bind fun x11 =>
  ck (H1.isV c0 0 x7 = true) (
  ck (H1.ldI .i64 ((H.push (.cells [.int .i64 a0_0, .int .i64 a0_1] false)).n) 0 = some x8) (
  ck (H1.ldI .i64 ((H.push (.cells [.int .i64 a0_0, .int .i64 a0_1] false)).n) (0 + 1) = some x9) (
  some (w64 (x6 - x11), p10.2))))
/- 93 (congou/cuts.plate).valid$1 -/
def ret93 : Bool → AV := fun r => .bool r
noncomputable def r93 (a0_0 : Int) (a0_1 : Int) (a0_2 : Int) (c0 : Nat) (H : Hp) : Option (Bool × Hp) :=
  lt (H.push (.cells [.int .i64 a0_0, .int .i64 a0_1, .int .i64 a0_2] false)) fun H1 =>
  (H1.ldI .i64 H.n (0 + 0)).bind fun x2 =>
  (H1.ldI .i64 c0 (0 + (0 : Int).toNat * 1)).bind fun x3 =>
  (H1.ldI .i64 H.n (0 + 1)).bind fun x4 =>
  (H1.ldI .i64 c0 (0 + (1 : Int).toNat * 1)).bind fun x5 =>
  some ((decide (0 < (w64 ((w64 (x2 * x3)) + (w64 (x4 * x5)))))), H1)
/- 95 (congou/cuts.plate).has$1 -/
def ret95 : Bool → AV := fun r => .bool r
noncomputable def r95 (a0_0 : Int) (a0_1 : Int) (a0_2 : Int) (c0 : Nat) (H : Hp) : Option (Bool × Hp) :=
  lt (H.push (.cells [.int .i64 a0_0, .int .i64 a0_1, .int .i64 a0_2] false)) fun H1 =>
  (H1.ldI .i64 H.n 0).bind fun x2 =>
  (H1.ldI .i64 H.n (0 + 1)).bind fun x3 =>
  (H1.ldI .i64 H.n (0 + 2)).bind fun x4 =>
  (H1.ldI .i64 c0 0).bind fun x5 =>
  (H1.ldI .i64 c0 (0 + 1)).bind fun x6 =>
  (H1.ldI .i64 c0 (0 + 2)).bind fun x7 =>
  (H1.ldI .i64 c0 (0 + 3)).bind fun x8 =>
  (r70 x2 x3 x4 x5 x6 x7 x8 H0).bind fun p9 =>
  some ((!p9.1), H1)
/- 106 congou/cuts.within$1 -/
def ret106 : Bool → AV := fun r => .bool r
noncomputable def r106 (a0 : Int) (c0 : Nat) (H : Hp) : Option (Bool × Hp) :=
  (H.ldI .i64 c0 0).bind fun x1 =>
  if a0 < (w64 (0 - x1)) then
    (some (true, H))
  else
    ((H.ldI .i64 c0 0).bind fun x3 =>
    some ((decide (x3 < a0)), H))
end Go.Lt.P2
