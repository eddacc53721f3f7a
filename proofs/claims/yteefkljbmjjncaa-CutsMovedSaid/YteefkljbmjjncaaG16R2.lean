/- PRINTED BY A PROGRAM OF OURS: what each function that 'CutsMoved' reaches computes on the abstract heap, and that the translated code does just that. Nothing is asked of the input. -/
import Derived.Test.YteefkljbmjjncaaG16R1
set_option linter.unusedVariables false
set_option linter.unusedSimpArgs false
set_option maxRecDepth 100000
set_option maxHeartbeats 4000000
namespace Go.Lt.P2
open Go Go.Lt Go.Proofs
/- 62 congou/congoulaw02.plus -/
def ret62 : Int × Int → AV := fun r => .agg [.int .i64 r.1, .int .i64 r.2]
noncomputable def r62 (a0_0 : Int) (a0_1 : Int) (a1 : Int) (H : Hp) : Option ((Int × Int) × Hp) :=
  lt ((H.push (.cells [.int .i64 a0_0, .int .i64 a0_1] false)).push (.cells [.int .i64 0, .int .i64 0] false)) fun H1 =>
  (H1.ldI .i64 H.n (0 + 0)).bind fun x2 =>
  (H1.ldI .i64 H.n (0 + 1)).bind fun x3 =>
  (H1.ldI .i64 H.n (0 + 1)).bind fun x4 =>
  (H1.sts ((H.push (.cells [.int .i64 a0_0, .int .i64 a0_1] false)).n) 0 [.int .i64 (w64 (x2 + (w64 (a1 * x3)))), .int .i64 x4]).bind fun H5 =>
  (H5.ldI .i64 ((H.push (.cells [.int .i64 a0_0, .int .i64 a0_1] false)).n) 0).bind fun x6 =>
  (H5.ldI .i64 ((H.push (.cells [.int .i64 a0_0, .int .i64 a0_1] false)).n) (0 + 1)).bind fun x7 =>
  some ((x6, x7), H5)
/- 16 congou/congoulaw02.CutsMoved -/
def ret16 : Bool → AV := fun r => .bool r
noncomputable def r16_l4 (app : App) : Nat → Sl → Int → Int → Nat → Sl → Sl → Sl → Int → Int → Hp → Option (Bool × Hp)
  | 0, _, _, _, _, _, _, _, _, _, _ => none
  | k_ + 1, v1, v2, v3, v4, v5, v6, v7, v8, v9, H => if v9 < v8 then
    (ck ((0 : Int) ≤ v9 ∧ v9 < (v7.len : Int)) (
    (H.ldI .i64 v7.b (v7.o + (v9 : Int).toNat * 4)).bind fun x3 =>
    (H.ldI .i64 v7.b ((v7.o + (v9 : Int).toNat * 4) + 1)).bind fun x4 =>
    (H.ldI .i64 v7.b ((v7.o + (v9 : Int).toNat * 4) + 2)).bind fun x5 =>
    (H.ldI .i64 v7.b ((v7.o + (v9 : Int).toNat * 4) + 3)).bind fun x6 =>
    ((H.push (.cells [.int .i64 0, .int .i64 0, .int .i64 0, .int .i64 0] false)).sts H.n 0 [.int .i64 x3, .int .i64 x4, .int .i64 x5, .int .i64 x6]).bind fun H7 =>
    ck ((0 : Int) ≤ v9 ∧ v9 < (v6.len : Int)) (
    (H7.ldI .i64 v6.b (v6.o + (v9 : Int).toNat * 4)).bind fun x9 =>
    (H7.ldI .i64 v6.b ((v6.o + (v9 : Int).toNat * 4) + 1)).bind fun x10 =>
    (H7.ldI .i64 v6.b ((v6.o + (v9 : Int).toNat * 4) + 2)).bind fun x11 =>
    (H7.ldI .i64 v6.b ((v6.o + (v9 : Int).toNat * 4) + 3)).bind fun x12 =>
    (H7.ldI .i64 H.n (0 + 0)).bind fun x13 =>
    (H7.ldI .i64 H.n ((0 + 0) + 1)).bind fun x14 =>
    (r62 x13 x14 v2 H0).bind fun p15 =>
    (H7.ldI .i64 H.n (0 + 2)).bind fun x16 =>
    (H7.ldI .i64 H.n ((0 + 2) + 1)).bind fun x17 =>
    (r62 x16 x17 v3 H0).bind fun p18 =>
    if (((x9 == p15.1.1) && (x10 == p15.1.2)) && ((x11 == p18.1.1) && (x12 == p18.1.2))) = true then
      (r16_l4 app k_ v1 v2 v3 v4 v5 v6 v7 v8 (w64 (v9 + 1)) H7)
    else
      (some (false, H7)))))
  else
    ((H.ldI .i64 v4 0).bind fun x20 =>
    (H.ldI .i64 v4 (0 + 1)).bind fun x21 =>
    (H.ldI .i64 v4 (0 + 2)).bind fun x22 =>
    (H.ldI .i64 v4 (0 + 3)).bind fun x23 =>
    (r20 x20 x21 x22 x23 H0).bind fun p24 =>
    if p24.1 = true then
      ((H.ldI .i64 v4 (0 + 0)).bind fun x26 =>
      (H.ldI .i64 v4 ((0 + 0) + 1)).bind fun x27 =>
      (r62 x26 x27 v2 H0).bind fun p28 =>
      (H.ldI .i64 v4 (0 + 2)).bind fun x29 =>
      (H.ldI .i64 v4 ((0 + 2) + 1)).bind fun x30 =>
      (r62 x29 x30 v3 H0).bind fun p31 =>
      ((H.push (.cells [.int .i64 0, .int .i64 0, .int .i64 0, .int .i64 0] false)).sts H.n 0 [.int .i64 p28.1.1, .int .i64 p28.1.2, .int .i64 p31.1.1, .int .i64 p31.1.2]).bind fun H32 =>
      (r18 v1 H32).bind fun p33 =>
      (p33.2.ldI .i64 v4 (0 + 0)).bind fun x34 =>
      (p33.2.ldI .i64 v4 ((0 + 0) + 1)).bind fun x35 =>
      (p33.2.ldI .i64 v4 (0 + 2)).bind fun x36 =>
      (p33.2.ldI .i64 v4 ((0 + 2) + 1)).bind fun x37 =>
      (r17 app p33.1 x34 x35 x36 x37 p33.2).bind fun p38 =>
      ck (H32.ldI .i64 v4 (0 + 0) = some x34) (
      ck (H32.ldI .i64 v4 ((0 + 0) + 1) = some x35) (
      ck (H32.ldI .i64 v4 (0 + 2) = some x36) (
      ck (H32.ldI .i64 v4 ((0 + 2) + 1) = some x37) (
      (p38.2.ldI .i64 H.n (0 + 0)).bind fun x43 =>
      (p38.2.ldI .i64 H.n ((0 + 0) + 1)).bind fun x44 =>
      (p38.2.ldI .i64 H.n (0 + 2)).bind fun x45 =>
      (p38.2.ldI .i64 H.n ((0 + 2) + 1)).bind fun x46 =>
      (r17 app v5 x43 x44 x45 x46 p38.2).bind fun p47 =>
      if p38.1.2 ≠ 0 then
        (some (false, p47.2))
      else
        ((p47.2.ldI .i64 H.n 0).bind fun x49 =>
        (p47.2.ldI .i64 H.n (0 + 1)).bind fun x50 =>
        (p47.2.ldI .i64 H.n (0 + 2)).bind fun x51 =>
        (p47.2.ldI .i64 H.n (0 + 3)).bind fun x52 =>
        (r20 x49 x50 x51 x52 H0).bind fun p53 =>
        if p53.1 = true then
          (if p47.1.2 = 0 then
            (if (p38.1.1 == p47.1.1) = true then
              ((app 21 [] p47.2).bind fun p57 =>
              (p57.1.asB).bind fun x58 =>
              some (x58, p57.2))
            else
              (some (false, p47.2)))
          else
            (some (false, p47.2)))
        else
          (if p47.1.2 = 2 then
            ((app 21 [] p47.2).bind fun p60 =>
            (p60.1.asB).bind fun x61 =>
            some (x61, p60.2))
          else
            (some (false, p47.2)))))))))
    else
      ((app 21 [] H).bind fun p62 =>
      (p62.1.asB).bind fun x63 =>
      some (x63, p62.2)))
noncomputable def r16_l3 (app : App) : Nat → Sl → Int → Int → Nat → Sl → Sl → Sl → Sl → Sl → Int → Int → Hp → Option (Bool × Hp)
  | 0, _, _, _, _, _, _, _, _, _, _, _, _ => none
  | k_ + 1, v1, v2, v3, v4, v5, v6, v7, v8, v9, v10, v11, H => if v11 < v10 then
    (ck ((0 : Int) ≤ v11 ∧ v11 < (v9.len : Int)) (
    (H.ldI .i64 v9.b (v9.o + (v11 : Int).toNat * 2)).bind fun x3 =>
    (H.ldI .i64 v9.b ((v9.o + (v11 : Int).toNat * 2) + 1)).bind fun x4 =>
    ((H.push (.cells [.int .i64 0, .int .i64 0] false)).sts H.n 0 [.int .i64 x3, .int .i64 x4]).bind fun H5 =>
    ck ((0 : Int) ≤ v11 ∧ v11 < (v6.len : Int)) (
    (H5.ldI .i64 v6.b (v6.o + (v11 : Int).toNat * 2)).bind fun x7 =>
    (H5.ldI .i64 v6.b ((v6.o + (v11 : Int).toNat * 2) + 1)).bind fun x8 =>
    (H5.ldI .i64 H.n (0 + (0 : Int).toNat * 1)).bind fun x9 =>
    (H5.ldI .i64 H.n (0 + (1 : Int).toNat * 1)).bind fun x10 =>
    if (AV.keqs [.int .i64 x7, .int .i64 x8] [.int .i64 (w64 (x9 + v2)), .int .i64 (w64 (x10 + v3))]) = true then
      (r16_l3 app k_ v1 v2 v3 v4 v5 v6 v7 v8 v9 v10 (w64 (v11 + 1)) H5)
    else
      (some (false, H5)))))
  else
    (r16_l4 app FUEL v1 v2 v3 v4 v5 v8 v7 (v7.len : Int) 0 H)
noncomputable def r16_l2 (app : App) : Nat → Sl → Int → Int → Nat → Sl → Sl → Sl → Sl → Sl → Sl → Sl → Int → Int → Hp → Option (Bool × Hp)
  | 0, _, _, _, _, _, _, _, _, _, _, _, _, _, _ => none
  | k_ + 1, v1, v2, v3, v4, v5, v6, v7, v8, v9, v10, v11, v12, v13, H => if v13 < v12 then
    (ck ((0 : Int) ≤ v13 ∧ v13 < (v11.len : Int)) (
    (H.ldI .i64 v11.b (v11.o + (v13 : Int).toNat * 2)).bind fun x3 =>
    (H.ldI .i64 v11.b ((v11.o + (v13 : Int).toNat * 2) + 1)).bind fun x4 =>
    ((H.push (.cells [.int .i64 0, .int .i64 0] false)).sts H.n 0 [.int .i64 x3, .int .i64 x4]).bind fun H5 =>
    ck ((0 : Int) ≤ v13 ∧ v13 < (v6.len : Int)) (
    (H5.ldI .i64 v6.b (v6.o + (v13 : Int).toNat * 2)).bind fun x7 =>
    (H5.ldI .i64 v6.b ((v6.o + (v13 : Int).toNat * 2) + 1)).bind fun x8 =>
    (H5.ldI .i64 H.n (0 + (0 : Int).toNat * 1)).bind fun x9 =>
    (H5.ldI .i64 H.n (0 + (1 : Int).toNat * 1)).bind fun x10 =>
    if (AV.keqs [.int .i64 x7, .int .i64 x8] [.int .i64 (w64 (x9 + v2)), .int .i64 (w64 (x10 + v3))]) = true then
      (r16_l2 app k_ v1 v2 v3 v4 v5 v6 v7 v8 v9 v10 v11 v12 (w64 (v13 + 1)) H5)
    else
      (some (false, H5)))))
  else
    (r16_l3 app FUEL v1 v2 v3 v4 v5 v8 v9 v10 v7 (v7.len : Int) 0 H)
noncomputable def r16_j1 (app : App) (v1 : Sl) (v2 : Int) (v3 : Int) (v4 : Nat) (v5 : Sl) (v6 : Sl) (v7 : Sl) (v8 : Sl) (v9 : Sl) (v10 : Sl) (v11 : Sl) (v12 : Bool) (H : Hp) : Option (Bool × Hp) :=
  if v12 = true then
    (some (false, H))
  else
    (r16_l2 app FUEL v1 v2 v3 v4 v5 v7 v8 v9 v10 v11 v6 (v6.len : Int) 0 H)
noncomputable def r16_j0 (app : App) (v1 : Sl) (v2 : Int) (v3 : Int) (v4 : Nat) (v5 : Sl) (v6 : Int) (v7 : Bool) (H : Hp) : Option (Bool × Hp) :=
  if v7 = true then
    (if v6 = 2 then
      ((app 21 [] H).bind fun p3 =>
      (p3.1.asB).bind fun x4 =>
      some (x4, p3.2))
    else
      (if v6 = 4 then
        ((app 21 [] H).bind fun p6 =>
        (p6.1.asB).bind fun x7 =>
        some (x7, p6.2))
      else
        (some (false, H))))
  else
    ((r36 v5 H).bind fun p8 =>
    (r19 p8.1 p8.2).bind fun p9 =>
    if p9.1 = true then
      ((r18 v1 p9.2).bind fun p11 =>
      (r40 app p11.1 p11.2).bind fun p12 =>
      (r49 v5 p12.2).bind fun p13 =>
      (r40 app p13.1 p13.2).bind fun p14 =>
      (r18 v1 p14.2).bind fun p15 =>
      (r23 app p15.1 p15.2).bind fun p16 =>
      (r49 v5 p16.2).bind fun p17 =>
      (r23 app p17.1 p17.2).bind fun p18 =>
      (r18 v1 p18.2).bind fun p19 =>
      (r51 app p19.1 p19.2).bind fun p20 =>
      (r49 v5 p20.2).bind fun p21 =>
      (r51 app p21.1 p21.2).bind fun p22 =>
      if p12.1.2 ≠ 0 then
        (r16_j1 app v1 v2 v3 v4 v5 p12.1.1 p14.1.1 p16.1.1 p18.1.1 p20.1.1 p22.1.1 true p22.2)
      else
        (if p14.1.2 ≠ 0 then
          (r16_j1 app v1 v2 v3 v4 v5 p12.1.1 p14.1.1 p16.1.1 p18.1.1 p20.1.1 p22.1.1 true p22.2)
        else
          (if p16.1.2 ≠ p18.1.2 then
            (r16_j1 app v1 v2 v3 v4 v5 p12.1.1 p14.1.1 p16.1.1 p18.1.1 p20.1.1 p22.1.1 true p22.2)
          else
            (if p20.1.2 ≠ 0 then
              (r16_j1 app v1 v2 v3 v4 v5 p12.1.1 p14.1.1 p16.1.1 p18.1.1 p20.1.1 p22.1.1 true p22.2)
            else
              (if p22.1.2 ≠ 0 then
                (r16_j1 app v1 v2 v3 v4 v5 p12.1.1 p14.1.1 p16.1.1 p18.1.1 p20.1.1 p22.1.1 true p22.2)
              else
                (if (p12.1.1.len : Int) ≠ (p14.1.1.len : Int) then
                  (r16_j1 app v1 v2 v3 v4 v5 p12.1.1 p14.1.1 p16.1.1 p18.1.1 p20.1.1 p22.1.1 true p22.2)
                else
                  (if (p16.1.1.len : Int) ≠ (p18.1.1.len : Int) then
                    (r16_j1 app v1 v2 v3 v4 v5 p12.1.1 p14.1.1 p16.1.1 p18.1.1 p20.1.1 p22.1.1 true p22.2)
                  else
                    (r16_j1 app v1 v2 v3 v4 v5 p12.1.1 p14.1.1 p16.1.1 p18.1.1 p20.1.1 p22.1.1 (decide ((p20.1.1.len : Int) ≠ (p22.1.1.len : Int))) p22.2))))))))
    else
      (some (false, p9.2)))
noncomputable def r16 (app : App) (a0 : Sl) (a1 : Int) (a2 : Int) (a3_0 : Int) (a3_1 : Int) (a3_2 : Int) (a3_3 : Int) (H : Hp) : Option (Bool × Hp) :=
  lt (H.push (.cells [.int .i64 a3_0, .int .i64 a3_1, .int .i64 a3_2, .int .i64 a3_3] false)) fun H1 =>
  (r18 a0 H1).bind fun p2 =>
  (r33 app p2.1 a1 a2 p2.2).bind fun p3 =>
  if p3.1.2 ≠ 0 then
    (r16_j0 app a0 a1 a2 H.n p3.1.1 p3.1.2 true p3.2)
  else
    ((r19 a0 p3.2).bind fun p5 =>
    if p5.1 = true then
      (if a1 < (-5) then
        (r16_j0 app a0 a1 a2 H.n p3.1.1 p3.1.2 true p5.2)
      else
        (if 5 < a1 then
          (r16_j0 app a0 a1 a2 H.n p3.1.1 p3.1.2 true p5.2)
        else
          (if a2 < (-5) then
            (r16_j0 app a0 a1 a2 H.n p3.1.1 p3.1.2 true p5.2)
          else
            (r16_j0 app a0 a1 a2 H.n p3.1.1 p3.1.2 (decide (5 < a2)) p5.2))))
    else
      (r16_j0 app a0 a1 a2 H.n p3.1.1 p3.1.2 true p5.2))
/- 96 (congou/cuts.Side).meet -/
def ret96 : Int × Int × Int × Int × Bool → AV := fun r => .tup [.agg [.int .i64 r.1, .int .i64 r.2.1, .int .i64 r.2.2.1, .int .i64 r.2.2.2.1], .bool r.2.2.2.2]
noncomputable def r96 (a0_0 : Int) (a0_1 : Int) (a0_2 : Int) (a1_0 : Int) (a1_1 : Int) (a1_2 : Int) (H : Hp) : Option ((Int × Int × Int × Int × Bool) × Hp) :=
  lt (((H.push (.cells [.int .i64 a0_0, .int .i64 a0_1, .int .i64 a0_2] false)).push (.cells [.int .i64 a1_0, .int .i64 a1_1, .int .i64 a1_2] false)).push (.cells [.int .i64 0, .int .i64 0, .int .i64 0, .int .i64 0] false)) fun H1 =>
  (H1.ldI .i64 H.n (0 + 0)).bind fun x2 =>
  (H1.ldI .i64 H.n (0 + 1)).bind fun x3 =>
  (H1.ldI .i64 ((H.push (.cells [.int .i64 a0_0, .int .i64 a0_1, .int .i64 a0_2] false)).n) (0 + 0)).bind fun x4 =>
  (H1.ldI .i64 ((H.push (.cells [.int .i64 a0_0, .int .i64 a0_1, .int .i64 a0_2] false)).n) (0 + 1)).bind fun x5 =>
  (r97 x2 x3 x4 x5 H0).bind fun p6 =>
  if p6.1 = 0 then
    ((H1.sts (((H.push (.cells [.int .i64 a0_0, .int .i64 a0_1, .int .i64 a0_2] false)).push (.cells [.int .i64 a1_0, .int .i64 a1_1, .int .i64 a1_2] false)).n) 0 [.int .i64 0, .int .i64 0, .int .i64 0, .int .i64 0]).bind fun H8 =>
    (H8.ldI .i64 (((H.push (.cells [.int .i64 a0_0, .int .i64 a0_1, .int .i64 a0_2] false)).push (.cells [.int .i64 a1_0, .int .i64 a1_1, .int .i64 a1_2] false)).n) 0).bind fun x9 =>
    (H8.ldI .i64 (((H.push (.cells [.int .i64 a0_0, .int .i64 a0_1, .int .i64 a0_2] false)).push (.cells [.int .i64 a1_0, .int .i64 a1_1, .int .i64 a1_2] false)).n) (0 + 1)).bind fun x10 =>
    (H8.ldI .i64 (((H.push (.cells [.int .i64 a0_0, .int .i64 a0_1, .int .i64 a0_2] false)).push (.cells [.int .i64 a1_0, .int .i64 a1_1, .int .i64 a1_2] false)).n) (0 + 2)).bind fun x11 =>
    (H8.ldI .i64 (((H.push (.cells [.int .i64 a0_0, .int .i64 a0_1, .int .i64 a0_2] false)).push (.cells [.int .i64 a1_0, .int .i64 a1_1, .int .i64 a1_2] false)).n) (0 + 3)).bind fun x12 =>
    some ((x9, x10, x11, x12, false), H8))
  else
    ((H1.ldI .i64 H.n (0 + 2)).bind fun x13 =>
    (H1.ldI .i64 ((H.push (.cells [.int .i64 a0_0, .int .i64 a0_1, .int .i64 a0_2] false)).n) (0 + 1)).bind fun x14 =>
    (H1.ldI .i64 ((H.push (.cells [.int .i64 a0_0, .int .i64 a0_1, .int .i64 a0_2] false)).n) (0 + 2)).bind fun x15 =>
    (H1.ldI .i64 H.n (0 + 1)).bind fun x16 =>
    (r100 (w64 ((w64 (x13 * x14)) - (w64 (x15 * x16)))) p6.1 H0).bind fun p17 =>
    (H1.ldI .i64 H.n (0 + 0)).bind fun x18 =>
    (H1.ldI .i64 ((H.push (.cells [.int .i64 a0_0, .int .i64 a0_1, .int .i64 a0_2] false)).n) (0 + 2)).bind fun x19 =>
    (H1.ldI .i64 ((H.push (.cells [.int .i64 a0_0, .int .i64 a0_1, .int .i64 a0_2] false)).n) (0 + 0)).bind fun x20 =>
    (H1.ldI .i64 H.n (0 + 2)).bind fun x21 =>
    (r100 (w64 ((w64 (x18 * x19)) - (w64 (x20 * x21)))) p6.1 H0).bind fun p22 =>
    (H1.sts (((H.push (.cells [.int .i64 a0_0, .int .i64 a0_1, .int .i64 a0_2] false)).push (.cells [.int .i64 a1_0, .int .i64 a1_1, .int .i64 a1_2] false)).n) 0 [.int .i64 p17.1.1, .int .i64 p17.1.2, .int .i64 p22.1.1, .int .i64 p22.1.2]).bind fun H23 =>
    (H23.ldI .i64 (((H.push (.cells [.int .i64 a0_0, .int .i64 a0_1, .int .i64 a0_2] false)).push (.cells [.int .i64 a1_0, .int .i64 a1_1, .int .i64 a1_2] false)).n) 0).bind fun x24 =>
    (H23.ldI .i64 (((H.push (.cells [.int .i64 a0_0, .int .i64 a0_1, .int .i64 a0_2] false)).push (.cells [.int .i64 a1_0, .int .i64 a1_1, .int .i64 a1_2] false)).n) (0 + 1)).bind fun x25 =>
    (H23.ldI .i64 (((H.push (.cells [.int .i64 a0_0, .int .i64 a0_1, .int .i64 a0_2] false)).push (.cells [.int .i64 a1_0, .int .i64 a1_1, .int .i64 a1_2] false)).n) (0 + 2)).bind fun x26 =>
    (H23.ldI .i64 (((H.push (.cells [.int .i64 a0_0, .int .i64 a0_1, .int .i64 a0_2] false)).push (.cells [.int .i64 a1_0, .int .i64 a1_1, .int .i64 a1_2] false)).n) (0 + 3)).bind fun x27 =>
    some ((x24, x25, x26, x27, true), H23))
/- 66 (congou/cuts.plate).corners -/
def ret66 : Unit → AV := fun _ => .tup []
noncomputable def r66_j2 (app : App) (kt1 : Sl → AV → Nat → Sl → Int → Int → Sl → Int → Int → Hp → Option (Unit × Hp)) (v1 : Sl) (v2 : AV) (v3 : Nat) (v4 : Sl) (v5 : Int) (v6 : Int) (v7 : Sl) (v8 : Int) (v9 : Int) (v10 : Bool) (H : Hp) : Option (Unit × Hp) :=
  if v10 = true then
    (some ((), H))
  else
    (kt1 v1 v2 v3 v4 v5 v6 v7 v8 (w64 (v9 + 1)) H)
noncomputable def r66_l1 (app : App) (kt0 : Sl → AV → Sl → Int → Int → Hp → Option (Unit × Hp)) : Nat → Sl → AV → Nat → Sl → Int → Int → Sl → Int → Int → Hp → Option (Unit × Hp)
  | 0, _, _, _, _, _, _, _, _, _, _ => none
  | k_ + 1, v1, v2, v3, v4, v5, v6, v7, v8, v9, H => if v9 < v8 then
    (ck ((0 : Int) ≤ v9 ∧ v9 < (v7.len : Int)) (
    (H.ldI .i64 v7.b (v7.o + (v9 : Int).toNat * 3)).bind fun x3 =>
    (H.ldI .i64 v7.b ((v7.o + (v9 : Int).toNat * 3) + 1)).bind fun x4 =>
    (H.ldI .i64 v7.b ((v7.o + (v9 : Int).toNat * 3) + 2)).bind fun x5 =>
    ((H.push (.cells [.int .i64 0, .int .i64 0, .int .i64 0] false)).sts H.n 0 [.int .i64 x3, .int .i64 x4, .int .i64 x5]).bind fun H6 =>
    (H6.ldI .i64 v3 0).bind fun x7 =>
    (H6.ldI .i64 v3 (0 + 1)).bind fun x8 =>
    (H6.ldI .i64 v3 (0 + 2)).bind fun x9 =>
    (H6.ldI .i64 H.n 0).bind fun x10 =>
    (H6.ldI .i64 H.n (0 + 1)).bind fun x11 =>
    (H6.ldI .i64 H.n (0 + 2)).bind fun x12 =>
    (r96 x7 x8 x9 x10 x11 x12 H0).bind fun p13 =>
    ((H6.push (.cells [.int .i64 0, .int .i64 0, .int .i64 0, .int .i64 0] false)).sts H6.n 0 [.int .i64 p13.1.1, .int .i64 p13.1.2.1, .int .i64 p13.1.2.2.1, .int .i64 p13.1.2.2.2.1]).bind fun H14 =>
    if p13.1.2.2.2.2 = true then
      ((H14.ldI .i64 H6.n 0).bind fun x16 =>
      (H14.ldI .i64 H6.n (0 + 1)).bind fun x17 =>
      (H14.ldI .i64 H6.n (0 + 2)).bind fun x18 =>
      (H14.ldI .i64 H6.n (0 + 3)).bind fun x19 =>
      (r65 app v1 x16 x17 x18 x19 H14).bind fun p20 =>
      if p20.1 = true then
        ((p20.2.ldI .i64 H6.n 0).bind fun x22 =>
        (p20.2.ldI .i64 H6.n (0 + 1)).bind fun x23 =>
        (p20.2.ldI .i64 H6.n (0 + 2)).bind fun x24 =>
        (p20.2.ldI .i64 H6.n (0 + 3)).bind fun x25 =>
        (p20.2.ldI .i64 v3 0).bind fun x26 =>
        (p20.2.ldI .i64 v3 (0 + 1)).bind fun x27 =>
        (p20.2.ldI .i64 v3 (0 + 2)).bind fun x28 =>
        (p20.2.ldI .i64 H.n 0).bind fun x29 =>
        (p20.2.ldI .i64 H.n (0 + 1)).bind fun x30 =>
        (p20.2.ldI .i64 H.n (0 + 2)).bind fun x31 =>
        (callv app v2 [.agg [.int .i64 x22, .int .i64 x23, .int .i64 x24, .int .i64 x25, .int .i64 x26, .int .i64 x27, .int .i64 x28, .int .i64 x29, .int .i64 x30, .int .i64 x31]] p20.2).bind fun p32 =>
        (p32.1.asB).bind fun x33 =>
        r66_j2 app (fun v1_ v2_ v3_ v4_ v5_ v6_ v7_ v8_ v9_ H_ => r66_l1 app kt0 k_ v1_ v2_ v3_ v4_ v5_ v6_ v7_ v8_ v9_ H_) v1 v2 v3 v4 v5 v6 v7 v8 v9 (!x33) p32.2)
      else
        (r66_j2 app (fun v1_ v2_ v3_ v4_ v5_ v6_ v7_ v8_ v9_ H_ => r66_l1 app kt0 k_ v1_ v2_ v3_ v4_ v5_ v6_ v7_ v8_ v9_ H_) v1 v2 v3 v4 v5 v6 v7 v8 v9 false p20.2))
    else
      (r66_j2 app (fun v1_ v2_ v3_ v4_ v5_ v6_ v7_ v8_ v9_ H_ => r66_l1 app kt0 k_ v1_ v2_ v3_ v4_ v5_ v6_ v7_ v8_ v9_ H_) v1 v2 v3 v4 v5 v6 v7 v8 v9 false H14)))
  else
    (kt0 v1 v2 v4 v5 (w64 (v6 + 1)) H)
noncomputable def r66_l0 (app : App) : Nat → Sl → AV → Sl → Int → Int → Hp → Option (Unit × Hp)
  | 0, _, _, _, _, _, _ => none
  | k_ + 1, v1, v2, v3, v4, v5, H => if v5 < v4 then
    (ck ((0 : Int) ≤ v5 ∧ v5 < (v3.len : Int)) (
    (H.ldI .i64 v3.b (v3.o + (v5 : Int).toNat * 3)).bind fun x3 =>
    (H.ldI .i64 v3.b ((v3.o + (v5 : Int).toNat * 3) + 1)).bind fun x4 =>
    (H.ldI .i64 v3.b ((v3.o + (v5 : Int).toNat * 3) + 2)).bind fun x5 =>
    ((H.push (.cells [.int .i64 0, .int .i64 0, .int .i64 0] false)).sts H.n 0 [.int .i64 x3, .int .i64 x4, .int .i64 x5]).bind fun H6 =>
    ck (((0 : Int) ≤ 0 ∧ 0 ≤ v5 ∧ v5 ≤ (v1.cap : Int)) ∧ (v1.opn = 0 ∨ v1.opn = 3)) (
    r66_l1 app (fun v1_ v2_ v3_ v4_ v5_ H_ => r66_l0 app k_ v1_ v2_ v3_ v4_ v5_ H_) FUEL v1 v2 H.n v3 v4 v5 (v1.cut 3 (0 : Int).toNat (v5 : Int).toNat) ((v1.cut 3 (0 : Int).toNat (v5 : Int).toNat).len : Int) 0 H6)))
  else
    (some ((), H))
noncomputable def r66 (app : App) (a0 : Sl) (a1 : AV) (H : Hp) : Option (Unit × Hp) :=
  r66_l0 app FUEL a0 a1 a0 (a0.len : Int) 0 H
/- 67 (congou/cuts.corner).between -/
def ret67 : Unit → AV := fun _ => .tup []
noncomputable def r67_j2 (app : App) (kt1 : AV → Nat → Int → Int → Int → Hp → Option (Unit × Hp)) (v1 : AV) (v2 : Nat) (v3 : Int) (v4 : Int) (v5 : Int) (v6 : Bool) (H : Hp) : Option (Unit × Hp) :=
  if v6 = true then
    (some ((), H))
  else
    (kt1 v1 v2 v3 v4 (w64 (v5 + 1)) H)
noncomputable def r67_j3 (app : App) (kt1 : AV → Nat → Int → Int → Int → Hp → Option (Unit × Hp)) (v1 : AV) (v2 : Nat) (v3 : Int) (v4 : Int) (v5 : Int) (v6 : Int) (v7 : Int) (H : Hp) : Option (Unit × Hp) :=
  if 0 ≤ v6 then
    (if 0 ≤ v7 then
      (if v6 ≤ (if v3 < (w64 (0 - v3)) then (w64 (0 - v3)) else v3) then
        (if v7 ≤ (if v3 < (w64 (0 - v3)) then (w64 (0 - v3)) else v3) then
          ((callv app v1 [.int .i64 v4, .int .i64 v5] H).bind fun p5 =>
          (p5.1.asB).bind fun x6 =>
          r67_j2 app kt1 v1 v2 v3 v4 v5 (!x6) p5.2)
        else
          (r67_j2 app kt1 v1 v2 v3 v4 v5 false H))
      else
        (r67_j2 app kt1 v1 v2 v3 v4 v5 false H))
    else
      (r67_j2 app kt1 v1 v2 v3 v4 v5 false H))
  else
    (r67_j2 app kt1 v1 v2 v3 v4 v5 false H)
noncomputable def r67_l1 (app : App) (kt0 : AV → Nat → Int → Int → Hp → Option (Unit × Hp)) : Nat → AV → Nat → Int → Int → Int → Hp → Option (Unit × Hp)
  | 0, _, _, _, _, _, _ => none
  | k_ + 1, v1, v2, v3, v4, v5, H => if v5 ≤ 8 then
    ((H.ldI .i64 v2 ((0 + 7) + 0)).bind fun x2 =>
    (H.ldI .i64 v2 ((0 + 7) + 1)).bind fun x3 =>
    (r97 v4 v5 x2 x3 H0).bind fun p4 =>
    (H.ldI .i64 v2 ((0 + 4) + 0)).bind fun x5 =>
    (H.ldI .i64 v2 ((0 + 4) + 1)).bind fun x6 =>
    (r97 x5 x6 v4 v5 H0).bind fun p7 =>
    if v3 < 0 then
      (r67_j3 app (fun v1_ v2_ v3_ v4_ v5_ H_ => r67_l1 app kt0 k_ v1_ v2_ v3_ v4_ v5_ H_) v1 v2 v3 v4 v5 (w64 (0 - p4.1)) (w64 (0 - p7.1)) H)
    else
      (r67_j3 app (fun v1_ v2_ v3_ v4_ v5_ H_ => r67_l1 app kt0 k_ v1_ v2_ v3_ v4_ v5_ H_) v1 v2 v3 v4 v5 p4.1 p7.1 H))
  else
    (kt0 v1 v2 v3 (w64 (v4 + 1)) H)
noncomputable def r67_l0 (app : App) : Nat → AV → Nat → Int → Int → Hp → Option (Unit × Hp)
  | 0, _, _, _, _, _ => none
  | k_ + 1, v1, v2, v3, v4, H => if v4 ≤ 8 then
    (r67_l1 app (fun v1_ v2_ v3_ v4_ H_ => r67_l0 app k_ v1_ v2_ v3_ v4_ H_) FUEL v1 v2 v3 v4 (-8) H)
  else
    (some ((), H))
noncomputable def r67 (app : App) (a0_0 : Int) (a0_1 : Int) (a0_2 : Int) (a0_3 : Int) (a0_4 : Int) (a0_5 : Int) (a0_6 : Int) (a0_7 : Int) (a0_8 : Int) (a0_9 : Int) (a1 : AV) (H : Hp) : Option (Unit × Hp) :=
  lt (H.push (.cells [.int .i64 a0_0, .int .i64 a0_1, .int .i64 a0_2, .int .i64 a0_3, .int .i64 a0_4, .int .i64 a0_5, .int .i64 a0_6, .int .i64 a0_7, .int .i64 a0_8, .int .i64 a0_9] false)) fun H1 =>
  (H1.ldI .i64 H.n ((0 + 4) + 0)).bind fun x2 =>
  (H1.ldI .i64 H.n ((0 + 4) + 1)).bind fun x3 =>
  (H1.ldI .i64 H.n ((0 + 7) + 0)).bind fun x4 =>
  (H1.ldI .i64 H.n ((0 + 7) + 1)).bind fun x5 =>
  (r97 x2 x3 x4 x5 H0).bind fun p6 =>
  r67_l0 app FUEL a1 H.n p6.1 (-8) H1
/- 93 (congou/cuts.plate).valid$1 -/
def ret93 : Bool → AV := fun r => .bool r
noncomputable def r93 (a0_0 : Int) (a0_1 : Int) (a0_2 : Int) (c0 : Nat) (H : Hp) : Option (Bool × Hp) :=
  lt (H.push (.cells [.int .i64 a0_0, .int .i64 a0_1, .int .i64 a0_2] false)) fun H1 =>
  (H1.ldI .i64 H.n (0 + 0)).bind fun x2 =>
  (H1.ldI .i64 c0 (0 + (0 : Int).toNat * 1)).bind fun x3 =>
  (H1.ldI .i64 H.n (0 + 1)).bind fun x4 =>
  (H1.ldI .i64 c0 (0 + (1 : Int).toNat * 1)).bind fun x5 =>
  some ((decide (0 < (w64 ((w64 (x2 * x3)) + (w64 (x4 * x5)))))), H1)
/- 95 (congou/cuts.plate).has$1 -/
def ret95 : Bool → AV := fun r => .bool r
noncomputable def r95 (a0_0 : Int) (a0_1 : Int) (a0_2 : Int) (c0 : Nat) (H : Hp) : Option (Bool × Hp) :=
  lt (H.push (.cells [.int .i64 a0_0, .int .i64 a0_1, .int .i64 a0_2] false)) fun H1 =>
  (H1.ldI .i64 H.n 0).bind fun x2 =>
  (H1.ldI .i64 H.n (0 + 1)).bind fun x3 =>
  (H1.ldI .i64 H.n (0 + 2)).bind fun x4 =>
  (H1.ldI .i64 c0 0).bind fun x5 =>
  (H1.ldI .i64 c0 (0 + 1)).bind fun x6 =>
  (H1.ldI .i64 c0 (0 + 2)).bind fun x7 =>
  (H1.ldI .i64 c0 (0 + 3)).bind fun x8 =>
  (r70 x2 x3 x4 x5 x6 x7 x8 H0).bind fun p9 =>
  some ((!p9.1), H1)
/- 106 congou/cuts.within$1 -/
def ret106 : Bool → AV := fun r => .bool r
noncomputable def r106 (a0 : Int) (c0 : Nat) (H : Hp) : Option (Bool × Hp) :=
  (H.ldI .i64 c0 0).bind fun x1 =>
  if a0 < (w64 (0 - x1)) then
    (some (true, H))
  else
    ((H.ldI .i64 c0 0).bind fun x3 =>
    some ((decide (x3 < a0)), H))
end Go.Lt.P2
