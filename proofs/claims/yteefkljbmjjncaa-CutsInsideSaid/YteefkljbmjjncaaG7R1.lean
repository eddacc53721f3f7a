/- PRINTED BY A PROGRAM OF OURS: what each function that 'CutsInside' reaches computes on the abstract heap, and that the translated code does just that. Nothing is asked of the input. -/
import Derived.Test.YteefkljbmjjncaaG7R0
set_option linter.unusedVariables false
set_option linter.unusedSimpArgs false
set_option maxRecDepth 100000
set_option maxHeartbeats 4000000
namespace Go.Lt.P2
open Go Go.Lt Go.Proofs
/- 7 congou/congoulaw02.CutsInside -/
def ret7 : Bool → AV := fun r => .bool r
noncomputable def r7_j2 (app : App) (kt1 : Sl → Sl → Int → Nat → Bool → Sl → Int → Int → Hp → Option (Bool × Hp)) (v1 : Sl) (v2 : Sl) (v3 : Int) (v4 : Nat) (v5 : Bool) (v6 : Sl) (v7 : Int) (v8 : Int) (v9 : Bool) (H : Hp) : Option (Bool × Hp) :=
  if v9 = true then
    (some (false, H))
  else
    (kt1 v1 v2 v3 v4 v5 v6 v7 (w64 (v8 + 1)) H)
noncomputable def r7_j3 (app : App) (v1 : Sl) (v2 : Sl) (v3 : Int) (v4 : Nat) (v5 : Bool) (H : Hp) : Option (Bool × Hp) :=
  if v5 = true then
    (some (false, H))
  else
    ((r18 v1 H).bind fun p2 =>
    (r28 v2 p2.2).bind fun p3 =>
    (p3.2.ldI .i64 v4 (0 + 0)).bind fun x4 =>
    (p3.2.ldI .i64 v4 (0 + 1)).bind fun x5 =>
    (p3.2.ldI .i64 v4 (0 + 2)).bind fun x6 =>
    (r29 app p2.1 p3.1 x4 x5 (w64 (x6 + (w64 (Int.tmod (IntKind.wrap .u64 (v3)) 50)))) p3.2).bind fun p7 =>
    ck (H.ldI .i64 v4 (0 + 0) = some x4) (
    ck (H.ldI .i64 v4 (0 + 1) = some x5) (
    ck (H.ldI .i64 v4 (0 + 2) = some x6) (
    ck (p2.2.ldI .i64 v4 (0 + 0) = some x4) (
    ck (p2.2.ldI .i64 v4 (0 + 1) = some x5) (
    ck (p2.2.ldI .i64 v4 (0 + 2) = some x6) (
    (r18 v1 p7.2).bind fun p14 =>
    (r28 v2 p14.2).bind fun p15 =>
    (p15.2.ldI .i64 v4 (0 + 0)).bind fun x16 =>
    (p15.2.ldI .i64 v4 (0 + 1)).bind fun x17 =>
    (p15.2.ldI .i64 v4 (0 + 2)).bind fun x18 =>
    (r29 app p14.1 p15.1 x16 x17 (w64 ((w64 (x18 - 1)) - (w64 (Int.tmod (IntKind.wrap .u64 (v3)) 50)))) p15.2).bind fun p19 =>
    ck (p7.2.ldI .i64 v4 (0 + 0) = some x16) (
    ck (p7.2.ldI .i64 v4 (0 + 1) = some x17) (
    ck (p7.2.ldI .i64 v4 (0 + 2) = some x18) (
    ck (p14.2.ldI .i64 v4 (0 + 0) = some x16) (
    ck (p14.2.ldI .i64 v4 (0 + 1) = some x17) (
    ck (p14.2.ldI .i64 v4 (0 + 2) = some x18) (
    if p7.1.1 = true then
      (if p19.1.1 = true then
        (some (false, p19.2))
      else
        (if p7.1.2 = 0 then
          (if p19.1.2 = 0 then
            ((app 21 [] p19.2).bind fun p30 =>
            (p30.1.asB).bind fun x31 =>
            some (x31, p30.2))
          else
            (some (false, p19.2)))
        else
          (some (false, p19.2))))
    else
      (some (false, p19.2)))))))))))))))
noncomputable def r7_l1 (app : App) : Nat → Sl → Sl → Int → Nat → Bool → Sl → Int → Int → Hp → Option (Bool × Hp)
  | 0, _, _, _, _, _, _, _, _, _ => none
  | k_ + 1, v1, v2, v3, v4, v5, v6, v7, v8, H => if v8 < v7 then
    (ck ((0 : Int) ≤ v8 ∧ v8 < (v6.len : Int)) (
    (H.ldI .i64 v6.b (v6.o + (v8 : Int).toNat * 3)).bind fun x3 =>
    (H.ldI .i64 v6.b ((v6.o + (v8 : Int).toNat * 3) + 1)).bind fun x4 =>
    (H.ldI .i64 v6.b ((v6.o + (v8 : Int).toNat * 3) + 2)).bind fun x5 =>
    ((H.push (.cells [.int .i64 0, .int .i64 0, .int .i64 0] false)).sts H.n 0 [.int .i64 x3, .int .i64 x4, .int .i64 x5]).bind fun H6 =>
    if v5 = true then
      ((H6.ldI .i64 H.n (0 + 0)).bind fun x8 =>
      (H6.ldI .i64 v4 ((0 + 0) + 0)).bind fun x9 =>
      (H6.ldI .i64 v4 ((0 + 2) + 1)).bind fun x10 =>
      (H6.ldI .i64 H.n (0 + 1)).bind fun x11 =>
      (H6.ldI .i64 v4 ((0 + 2) + 0)).bind fun x12 =>
      (H6.ldI .i64 v4 ((0 + 0) + 1)).bind fun x13 =>
      (H6.ldI .i64 H.n (0 + 2)).bind fun x14 =>
      (H6.ldI .i64 v4 ((0 + 0) + 1)).bind fun x15 =>
      (H6.ldI .i64 v4 ((0 + 2) + 1)).bind fun x16 =>
      r7_j2 app (fun v1_ v2_ v3_ v4_ v5_ v6_ v7_ v8_ H_ => r7_l1 app k_ v1_ v2_ v3_ v4_ v5_ v6_ v7_ v8_ H_) v1 v2 v3 v4 true v6 v7 v8 (decide ((w64 ((w64 (x14 * x15)) * x16)) < (w64 ((w64 ((w64 (x8 * x9)) * x10)) + (w64 ((w64 (x11 * x12)) * x13)))))) H6)
    else
      (r7_j2 app (fun v1_ v2_ v3_ v4_ v5_ v6_ v7_ v8_ H_ => r7_l1 app k_ v1_ v2_ v3_ v4_ v5_ v6_ v7_ v8_ H_) v1 v2 v3 v4 false v6 v7 v8 false H6)))
  else
    ((r18 v1 H).bind fun p17 =>
    (r28 v2 p17.2).bind fun p18 =>
    (r27 app p17.1 p18.1 p18.2).bind fun p19 =>
    ((p19.2.push (.cells [.int .i64 0, .int .i64 0, .int .i64 0] false)).sts p19.2.n 0 [.int .i64 p19.1.1, .int .i64 p19.1.2.1, .int .i64 p19.1.2.2.1]).bind fun H20 =>
    if p19.1.2.2.2 ≠ 0 then
      (if p19.1.2.2.2 = 2 then
        ((app 21 [] H20).bind fun p23 =>
        (p23.1.asB).bind fun x24 =>
        some (x24, p23.2))
      else
        (if p19.1.2.2.2 = 4 then
          ((app 21 [] H20).bind fun p26 =>
          (p26.1.asB).bind fun x27 =>
          some (x27, p26.2))
        else
          (some (false, H20))))
    else
      ((H20.ldI .i64 p19.2.n (0 + 0)).bind fun x28 =>
      if x28 < (-3000) then
        (r7_j3 app v1 v2 v3 p19.2.n true H20)
      else
        ((H20.ldI .i64 p19.2.n (0 + 0)).bind fun x30 =>
        if 3000 < x30 then
          (r7_j3 app v1 v2 v3 p19.2.n true H20)
        else
          ((H20.ldI .i64 p19.2.n (0 + 1)).bind fun x32 =>
          if x32 < (-3000) then
            (r7_j3 app v1 v2 v3 p19.2.n true H20)
          else
            ((H20.ldI .i64 p19.2.n (0 + 1)).bind fun x34 =>
            if 3000 < x34 then
              (r7_j3 app v1 v2 v3 p19.2.n true H20)
            else
              ((H20.ldI .i64 p19.2.n (0 + 2)).bind fun x36 =>
              if x36 < (-30000) then
                (r7_j3 app v1 v2 v3 p19.2.n true H20)
              else
                ((H20.ldI .i64 p19.2.n (0 + 2)).bind fun x38 =>
                if 30000 < x38 then
                  (r7_j3 app v1 v2 v3 p19.2.n true H20)
                else
                  (if v5 = true then
                    ((H20.ldI .i64 p19.2.n (0 + 0)).bind fun x41 =>
                    (H20.ldI .i64 v4 ((0 + 0) + 0)).bind fun x42 =>
                    (H20.ldI .i64 v4 ((0 + 2) + 1)).bind fun x43 =>
                    (H20.ldI .i64 p19.2.n (0 + 1)).bind fun x44 =>
                    (H20.ldI .i64 v4 ((0 + 2) + 0)).bind fun x45 =>
                    (H20.ldI .i64 v4 ((0 + 0) + 1)).bind fun x46 =>
                    (H20.ldI .i64 p19.2.n (0 + 2)).bind fun x47 =>
                    (H20.ldI .i64 v4 ((0 + 0) + 1)).bind fun x48 =>
                    (H20.ldI .i64 v4 ((0 + 2) + 1)).bind fun x49 =>
                    r7_j3 app v1 v2 v3 p19.2.n (decide ((w64 ((w64 (x47 * x48)) * x49)) < (w64 ((w64 ((w64 (x41 * x42)) * x43)) + (w64 ((w64 (x44 * x45)) * x46)))))) H20)
                  else
                    (r7_j3 app v1 v2 v3 p19.2.n false H20)))))))))
noncomputable def r7_j0 (app : App) (v1 : Sl) (v2 : Sl) (v3 : Int) (v4 : Nat) (v5 : Bool) (v6 : Int) (v7 : Bool) (H : Hp) : Option (Bool × Hp) :=
  if v7 = true then
    (if v6 = 2 then
      ((app 21 [] H).bind fun p3 =>
      (p3.1.asB).bind fun x4 =>
      some (x4, p3.2))
    else
      (some (false, H)))
  else
    (r7_l1 app FUEL v1 v2 v3 v4 v5 v1 (v1.len : Int) 0 H)
noncomputable def r7 (app : App) (a0 : Sl) (a1_0 : Int) (a1_1 : Int) (a1_2 : Int) (a1_3 : Int) (a2 : Sl) (a3 : Int) (H : Hp) : Option (Bool × Hp) :=
  lt (H.push (.cells [.int .i64 a1_0, .int .i64 a1_1, .int .i64 a1_2, .int .i64 a1_3] false)) fun H1 =>
  (r18 a0 H1).bind fun p2 =>
  (p2.2.ldI .i64 H.n (0 + 0)).bind fun x3 =>
  (p2.2.ldI .i64 H.n ((0 + 0) + 1)).bind fun x4 =>
  (p2.2.ldI .i64 H.n (0 + 2)).bind fun x5 =>
  (p2.2.ldI .i64 H.n ((0 + 2) + 1)).bind fun x6 =>
  (r17 app p2.1 x3 x4 x5 x6 p2.2).bind fun p7 =>
  ck (H1.ldI .i64 H.n (0 + 0) = some x3) (
  ck (H1.ldI .i64 H.n ((0 + 0) + 1) = some x4) (
  ck (H1.ldI .i64 H.n (0 + 2) = some x5) (
  ck (H1.ldI .i64 H.n ((0 + 2) + 1) = some x6) (
  if p7.1.2 ≠ 0 then
    (r7_j0 app a0 a2 a3 H.n p7.1.1 p7.1.2 true p7.2)
  else
    ((r19 a0 p7.2).bind fun p13 =>
    if p13.1 = true then
      ((p13.2.ldI .i64 H.n 0).bind fun x15 =>
      (p13.2.ldI .i64 H.n (0 + 1)).bind fun x16 =>
      (p13.2.ldI .i64 H.n (0 + 2)).bind fun x17 =>
      (p13.2.ldI .i64 H.n (0 + 3)).bind fun x18 =>
      (r20 x15 x16 x17 x18 H0).bind fun p19 =>
      r7_j0 app a0 a2 a3 H.n p7.1.1 p7.1.2 (!p19.1) p13.2)
    else
      (r7_j0 app a0 a2 a3 H.n p7.1.1 p7.1.2 true p13.2))))))
/- 97 congou/cuts.cross -/
def ret97 : Int → AV := fun r => .int .i64 r
noncomputable def r97 (a0 : Int) (a1 : Int) (a2 : Int) (a3 : Int) (H : Hp) : Option (Int × Hp) :=
  some (w64 ((w64 (a0 * a3)) - (w64 (a1 * a2))), H)
/- 96 (congou/cuts.Side).meet -/
def ret96 : Int × Int × Int × Int × Bool → AV := fun r => .tup [.agg [.int .i64 r.1, .int .i64 r.2.1, .int .i64 r.2.2.1, .int .i64 r.2.2.2.1], .bool r.2.2.2.2]
noncomputable def r96 (a0_0 : Int) (a0_1 : Int) (a0_2 : Int) (a1_0 : Int) (a1_1 : Int) (a1_2 : Int) (H : Hp) : Option ((Int × Int × Int × Int × Bool) × Hp) :=
  lt (((H.push (.cells [.int .i64 a0_0, .int .i64 a0_1, .int .i64 a0_2] false)).push (.cells [.int .i64 a1_0, .int .i64 a1_1, .int .i64 a1_2] false)).push (.cells [.int .i64 0, .int .i64 0, .int .i64 0, .int .i64 0] false)) fun H1 =>
  (H1.ldI .i64 H.n (0 + 0)).bind fun x2 =>
  (H1.ldI .i64 H.n (0 + 1)).bind fun x3 =>
  (H1.ldI .i64 ((H.push (.cells [.int .i64 a0_0, .int .i64 a0_1, .int .i64 a0_2] false)).n) (0 + 0)).bind fun x4 =>
  (H1.ldI .i64 ((H.push (.cells [.int .i64 a0_0, .int .i64 a0_1, .int .i64 a0_2] false)).n) (0 + 1)).bind fun x5 =>
  (r97 x2 x3 x4 x5 H0).bind fun p6 =>
  if p6.1 = 0 then
    ((H1.sts (((H.push (.cells [.int .i64 a0_0, .int .i64 a0_1, .int .i64 a0_2] false)).push (.cells [.int .i64 a1_0, .int .i64 a1_1, .int .i64 a1_2] false)).n) 0 [.int .i64 0, .int .i64 0, .int .i64 0, .int .i64 0]).bind fun H8 =>
    (H8.ldI .i64 (((H.push (.cells [.int .i64 a0_0, .int .i64 a0_1, .int .i64 a0_2] false)).push (.cells [.int .i64 a1_0, .int .i64 a1_1, .int .i64 a1_2] false)).n) 0).bind fun x9 =>
    (H8.ldI .i64 (((H.push (.cells [.int .i64 a0_0, .int .i64 a0_1, .int .i64 a0_2] false)).push (.cells [.int .i64 a1_0, .int .i64 a1_1, .int .i64 a1_2] false)).n) (0 + 1)).bind fun x10 =>
    (H8.ldI .i64 (((H.push (.cells [.int .i64 a0_0, .int .i64 a0_1, .int .i64 a0_2] false)).push (.cells [.int .i64 a1_0, .int .i64 a1_1, .int .i64 a1_2] false)).n) (0 + 2)).bind fun x11 =>
    (H8.ldI .i64 (((H.push (.cells [.int .i64 a0_0, .int .i64 a0_1, .int .i64 a0_2] false)).push (.cells [.int .i64 a1_0, .int .i64 a1_1, .int .i64 a1_2] false)).n) (0 + 3)).bind fun x12 =>
    some ((x9, x10, x11, x12, false), H8))
  else
    ((H1.ldI .i64 H.n (0 + 2)).bind fun x13 =>
    (H1.ldI .i64 ((H.push (.cells [.int .i64 a0_0, .int .i64 a0_1, .int .i64 a0_2] false)).n) (0 + 1)).bind fun x14 =>
    (H1.ldI .i64 ((H.push (.cells [.int .i64 a0_0, .int .i64 a0_1, .int .i64 a0_2] false)).n) (0 + 2)).bind fun x15 =>
    (H1.ldI .i64 H.n (0 + 1)).bind fun x16 =>
    (r100 (w64 ((w64 (x13 * x14)) - (w64 (x15 * x16)))) p6.1 H0).bind fun p17 =>
    (H1.ldI .i64 H.n (0 + 0)).bind fun x18 =>
    (H1.ldI .i64 ((H.push (.cells [.int .i64 a0_0, .int .i64 a0_1, .int .i64 a0_2] false)).n) (0 + 2)).bind fun x19 =>
    (H1.ldI .i64 ((H.push (.cells [.int .i64 a0_0, .int .i64 a0_1, .int .i64 a0_2] false)).n) (0 + 0)).bind fun x20 =>
    (H1.ldI .i64 H.n (0 + 2)).bind fun x21 =>
    (r100 (w64 ((w64 (x18 * x19)) - (w64 (x20 * x21)))) p6.1 H0).bind fun p22 =>
    (H1.sts (((H.push (.cells [.int .i64 a0_0, .int .i64 a0_1, .int .i64 a0_2] false)).push (.cells [.int .i64 a1_0, .int .i64 a1_1, .int .i64 a1_2] false)).n) 0 [.int .i64 p17.1.1, .int .i64 p17.1.2, .int .i64 p22.1.1, .int .i64 p22.1.2]).bind fun H23 =>
    (H23.ldI .i64 (((H.push (.cells [.int .i64 a0_0, .int .i64 a0_1, .int .i64 a0_2] false)).push (.cells [.int .i64 a1_0, .int .i64 a1_1, .int .i64 a1_2] false)).n) 0).bind fun x24 =>
    (H23.ldI .i64 (((H.push (.cells [.int .i64 a0_0, .int .i64 a0_1, .int .i64 a0_2] false)).push (.cells [.int .i64 a1_0, .int .i64 a1_1, .int .i64 a1_2] false)).n) (0 + 1)).bind fun x25 =>
    (H23.ldI .i64 (((H.push (.cells [.int .i64 a0_0, .int .i64 a0_1, .int .i64 a0_2] false)).push (.cells [.int .i64 a1_0, .int .i64 a1_1, .int .i64 a1_2] false)).n) (0 + 2)).bind fun x26 =>
    (H23.ldI .i64 (((H.push (.cells [.int .i64 a0_0, .int .i64 a0_1, .int .i64 a0_2] false)).push (.cells [.int .i64 a1_0, .int .i64 a1_1, .int .i64 a1_2] false)).n) (0 + 3)).bind fun x27 =>
    some ((x24, x25, x26, x27, true), H23))
/- 66 (congou/cuts.plate).corners -/
def ret66 : Unit → AV := fun _ => .tup []
noncomputable def r66_j2 (app : App) (kt1 : Sl → AV → Nat → Sl → Int → Int → Sl → Int → Int → Hp → Option (Unit × Hp)) (v1 : Sl) (v2 : AV) (v3 : Nat) (v4 : Sl) (v5 : Int) (v6 : Int) (v7 : Sl) (v8 : Int) (v9 : Int) (v10 : Bool) (H : Hp) : Option (Unit × Hp) :=
  if v10 = true then
    (some ((), H))
  else
    (kt1 v1 v2 v3 v4 v5 v6 v7 v8 (w64 (v9 + 1)) H)
noncomputable def r66_l1 (app : App) (kt0 : Sl → AV → Sl → Int → Int → Hp → Option (Unit × Hp)) : Nat → Sl → AV → Nat → Sl → Int → Int → Sl → Int → Int → Hp → Option (Unit × Hp)
  | 0, _, _, _, _, _, _, _, _, _, _ => none
  | k_ + 1, v1, v2, v3, v4, v5, v6, v7, v8, v9, H => if v9 < v8 then
    (ck ((0 : Int) ≤ v9 ∧ v9 < (v7.len : Int)) (
    (H.ldI .i64 v7.b (v7.o + (v9 : Int).toNat * 3)).bind fun x3 =>
    (H.ldI .i64 v7.b ((v7.o + (v9 : Int).toNat * 3) + 1)).bind fun x4 =>
    (H.ldI .i64 v7.b ((v7.o + (v9 : Int).toNat * 3) + 2)).bind fun x5 =>
    ((H.push (.cells [.int .i64 0, .int .i64 0, .int .i64 0] false)).sts H.n 0 [.int .i64 x3, .int .i64 x4, .int .i64 x5]).bind fun H6 =>
    (H6.ldI .i64 v3 0).bind fun x7 =>
    (H6.ldI .i64 v3 (0 + 1)).bind fun x8 =>
    (H6.ldI .i64 v3 (0 + 2)).bind fun x9 =>
    (H6.ldI .i64 H.n 0).bind fun x10 =>
    (H6.ldI .i64 H.n (0 + 1)).bind fun x11 =>
    (H6.ldI .i64 H.n (0 + 2)).bind fun x12 =>
    (r96 x7 x8 x9 x10 x11 x12 H0).bind fun p13 =>
    ((H6.push (.cells [.int .i64 0, .int .i64 0, .int .i64 0, .int .i64 0] false)).sts H6.n 0 [.int .i64 p13.1.1, .int .i64 p13.1.2.1, .int .i64 p13.1.2.2.1, .int .i64 p13.1.2.2.2.1]).bind fun H14 =>
    if p13.1.2.2.2.2 = true then
      ((H14.ldI .i64 H6.n 0).bind fun x16 =>
      (H14.ldI .i64 H6.n (0 + 1)).bind fun x17 =>
      (H14.ldI .i64 H6.n (0 + 2)).bind fun x18 =>
      (H14.ldI .i64 H6.n (0 + 3)).bind fun x19 =>
      (r65 app v1 x16 x17 x18 x19 H14).bind fun p20 =>
      if p20.1 = true then
        ((p20.2.ldI .i64 H6.n 0).bind fun x22 =>
        (p20.2.ldI .i64 H6.n (0 + 1)).bind fun x23 =>
        (p20.2.ldI .i64 H6.n (0 + 2)).bind fun x24 =>
        (p20.2.ldI .i64 H6.n (0 + 3)).bind fun x25 =>
        (p20.2.ldI .i64 v3 0).bind fun x26 =>
        (p20.2.ldI .i64 v3 (0 + 1)).bind fun x27 =>
        (p20.2.ldI .i64 v3 (0 + 2)).bind fun x28 =>
        (p20.2.ldI .i64 H.n 0).bind fun x29 =>
        (p20.2.ldI .i64 H.n (0 + 1)).bind fun x30 =>
        (p20.2.ldI .i64 H.n (0 + 2)).bind fun x31 =>
        (callv app v2 [.agg [.int .i64 x22, .int .i64 x23, .int .i64 x24, .int .i64 x25, .int .i64 x26, .int .i64 x27, .int .i64 x28, .int .i64 x29, .int .i64 x30, .int .i64 x31]] p20.2).bind fun p32 =>
        (p32.1.asB).bind fun x33 =>
        r66_j2 app (fun v1_ v2_ v3_ v4_ v5_ v6_ v7_ v8_ v9_ H_ => r66_l1 app kt0 k_ v1_ v2_ v3_ v4_ v5_ v6_ v7_ v8_ v9_ H_) v1 v2 v3 v4 v5 v6 v7 v8 v9 (!x33) p32.2)
      else
        (r66_j2 app (fun v1_ v2_ v3_ v4_ v5_ v6_ v7_ v8_ v9_ H_ => r66_l1 app kt0 k_ v1_ v2_ v3_ v4_ v5_ v6_ v7_ v8_ v9_ H_) v1 v2 v3 v4 v5 v6 v7 v8 v9 false p20.2))
    else
      (r66_j2 app (fun v1_ v2_ v3_ v4_ v5_ v6_ v7_ v8_ v9_ H_ => r66_l1 app kt0 k_ v1_ v2_ v3_ v4_ v5_ v6_ v7_ v8_ v9_ H_) v1 v2 v3 v4 v5 v6 v7 v8 v9 false H14)))
  else
    (kt0 v1 v2 v4 v5 (w64 (v6 + 1)) H)
noncomputable def r66_l0 (app : App) : Nat → Sl → AV → Sl → Int → Int → Hp → Option (Unit × Hp)
  | 0, _, _, _, _, _, _ => none
  | k_ + 1, v1, v2, v3, v4, v5, H => if v5 < v4 then
    (ck ((0 : Int) ≤ v5 ∧ v5 < (v3.len : Int)) (
    (H.ldI .i64 v3.b (v3.o + (v5 : Int).toNat * 3)).bind fun x3 =>
    (H.ldI .i64 v3.b ((v3.o + (v5 : Int).toNat * 3) + 1)).bind fun x4 =>
    (H.ldI .i64 v3.b ((v3.o + (v5 : Int).toNat * 3) + 2)).bind fun x5 =>
    ((H.push (.cells [.int .i64 0, .int .i64 0, .int .i64 0] false)).sts H.n 0 [.int .i64 x3, .int .i64 x4, .int .i64 x5]).bind fun H6 =>
    ck (((0 : Int) ≤ 0 ∧ 0 ≤ v5 ∧ v5 ≤ (v1.cap : Int)) ∧ (v1.opn = 0 ∨ v1.opn = 3)) (
    r66_l1 app (fun v1_ v2_ v3_ v4_ v5_ H_ => r66_l0 app k_ v1_ v2_ v3_ v4_ v5_ H_) FUEL v1 v2 H.n v3 v4 v5 (v1.cut 3 (0 : Int).toNat (v5 : Int).toNat) ((v1.cut 3 (0 : Int).toNat (v5 : Int).toNat).len : Int) 0 H6)))
  else
    (some ((), H))
noncomputable def r66 (app : App) (a0 : Sl) (a1 : AV) (H : Hp) : Option (Unit × Hp) :=
  r66_l0 app FUEL a0 a1 a0 (a0.len : Int) 0 H
/- 67 (congou/cuts.corner).between -/
def ret67 : Unit → AV := fun _ => .tup []
noncomputable def r67_j2 (app : App) (kt1 : AV → Nat → Int → Int → Int → Hp → Option (Unit × Hp)) (v1 : AV) (v2 : Nat) (v3 : Int) (v4 : Int) (v5 : Int) (v6 : Bool) (H : Hp) : Option (Unit × Hp) :=
  if v6 = true then
    (some ((), H))
  else
    (kt1 v1 v2 v3 v4 (w64 (v5 + 1)) H)
noncomputable def r67_j3 (app : App) (kt1 : AV → Nat → Int → Int → Int → Hp → Option (Unit × Hp)) (v1 : AV) (v2 : Nat) (v3 : Int) (v4 : Int) (v5 : Int) (v6 : Int) (v7 : Int) (H : Hp) : Option (Unit × Hp) :=
  if 0 ≤ v6 then
    (if 0 ≤ v7 then
      (if v6 ≤ (if v3 < (w64 (0 - v3)) then (w64 (0 - v3)) else v3) then
        (if v7 ≤ (if v3 < (w64 (0 - v3)) then (w64 (0 - v3)) else v3) then
          ((callv app v1 [.int .i64 v4, .int .i64 v5] H).bind fun p5 =>
          (p5.1.asB).bind fun x6 =>
          r67_j2 app kt1 v1 v2 v3 v4 v5 (!x6) p5.2)
        else
          (r67_j2 app kt1 v1 v2 v3 v4 v5 false H))
      else
        (r67_j2 app kt1 v1 v2 v3 v4 v5 false H))
    else
      (r67_j2 app kt1 v1 v2 v3 v4 v5 false H))
  else
    (r67_j2 app kt1 v1 v2 v3 v4 v5 false H)
noncomputable def r67_l1 (app : App) (kt0 : AV → Nat → Int → Int → Hp → Option (Unit × Hp)) : Nat → AV → Nat → Int → Int → Int → Hp → Option (Unit × Hp)
  | 0, _, _, _, _, _, _ => none
  | k_ + 1, v1, v2, v3, v4, v5, H => if v5 ≤ 8 then
    ((H.ldI .i64 v2 ((0 + 7) + 0)).bind fun x2 =>
    (H.ldI .i64 v2 ((0 + 7) + 1)).bind fun x3 =>
    (r97 v4 v5 x2 x3 H0).bind fun p4 =>
    (H.ldI .i64 v2 ((0 + 4) + 0)).bind fun x5 =>
    (H.ldI .i64 v2 ((0 + 4) + 1)).bind fun x6 =>
    (r97 x5 x6 v4 v5 H0).bind fun p7 =>
    if v3 < 0 then
      (r67_j3 app (fun v1_ v2_ v3_ v4_ v5_ H_ => r67_l1 app kt0 k_ v1_ v2_ v3_ v4_ v5_ H_) v1 v2 v3 v4 v5 (w64 (0 - p4.1)) (w64 (0 - p7.1)) H)
    else
      (r67_j3 app (fun v1_ v2_ v3_ v4_ v5_ H_ => r67_l1 app kt0 k_ v1_ v2_ v3_ v4_ v5_ H_) v1 v2 v3 v4 v5 p4.1 p7.1 H))
  else
    (kt0 v1 v2 v3 (w64 (v4 + 1)) H)
noncomputable def r67_l0 (app : App) : Nat → AV → Nat → Int → Int → Hp → Option (Unit × Hp)
  | 0, _, _, _, _, _ => none
  | k_ + 1, v1, v2, v3, v4, H => if v4 ≤ 8 then
    (r67_l1 app (fun v1_ v2_ v3_ v4_ H_ => r67_l0 app k_ v1_ v2_ v3_ v4_ H_) FUEL v1 v2 v3 v4 (-8) H)
  else
    (some ((), H))
noncomputable def r67 (app : App) (a0_0 : Int) (a0_1 : Int) (a0_2 : Int) (a0_3 : Int) (a0_4 : Int) (a0_5 : Int) (a0_6 : Int) (a0_7 : Int) (a0_8 : Int) (a0_9 : Int) (a1 : AV) (H : Hp) : Option (Unit × Hp) :=
  lt (H.push (.cells [.int .i64 a0_0, .int .i64 a0_1, .int .i64 a0_2, .int .i64 a0_3, .int .i64 a0_4, .int .i64 a0_5, .int .i64 a0_6, .int .i64 a0_7, .int .i64 a0_8, .int .i64 a0_9] false)) fun H1 =>
  (H1.ldI .i64 H.n ((0 + 4) + 0)).bind fun x2 =>
  (H1.ldI .i64 H.n ((0 + 4) + 1)).bind fun x3 =>
  (H1.ldI .i64 H.n ((0 + 7) + 0)).bind fun x4 =>
  (H1.ldI .i64 H.n ((0 + 7) + 1)).bind fun x5 =>
  (r97 x2 x3 x4 x5 H0).bind fun p6 =>
  r67_l0 app FUEL a1 H.n p6.1 (-8) H1
/- 93 (congou/cuts.plate).valid$1 -/
def ret93 : Bool → AV := fun r => .bool r
noncomputable def r93 (a0_0 : Int) (a0_1 : Int) (a0_2 : Int) (c0 : Nat) (H : Hp) : Option (Bool × Hp) :=
  lt (H.push (.cells [.int .i64 a0_0, .int .i64 a0_1, .int .i64 a0_2] false)) fun H1 =>
  (H1.ldI .i64 H.n (0 + 0)).bind fun x2 =>
  (H1.ldI .i64 c0 (0 + (0 : Int).toNat * 1)).bind fun x3 =>
  (H1.ldI .i64 H.n (0 + 1)).bind fun x4 =>
  (H1.ldI .i64 c0 (0 + (1 : Int).toNat * 1)).bind fun x5 =>
  some ((decide (0 < (w64 ((w64 (x2 * x3)) + (w64 (x4 * x5)))))), H1)
/- 95 (congou/cuts.plate).has$1 -/
def ret95 : Bool → AV := fun r => .bool r
noncomputable def r95 (a0_0 : Int) (a0_1 : Int) (a0_2 : Int) (c0 : Nat) (H : Hp) : Option (Bool × Hp) :=
  lt (H.push (.cells [.int .i64 a0_0, .int .i64 a0_1, .int .i64 a0_2] false)) fun H1 =>
  (H1.ldI .i64 H.n 0).bind fun x2 =>
  (H1.ldI .i64 H.n (0 + 1)).bind fun x3 =>
  (H1.ldI .i64 H.n (0 + 2)).bind fun x4 =>
  (H1.ldI .i64 c0 0).bind fun x5 =>
  (H1.ldI .i64 c0 (0 + 1)).bind fun x6 =>
  (H1.ldI .i64 c0 (0 + 2)).bind fun x7 =>
  (H1.ldI .i64 c0 (0 + 3)).bind fun x8 =>
  (r70 x2 x3 x4 x5 x6 x7 x8 H0).bind fun p9 =>
  some ((!p9.1), H1)
/- 106 congou/cuts.within$1 -/
def ret106 : Bool → AV := fun r => .bool r
noncomputable def r106 (a0 : Int) (c0 : Nat) (H : Hp) : Option (Bool × Hp) :=
  (H.ldI .i64 c0 0).bind fun x1 =>
  if a0 < (w64 (0 - x1)) then
    (some (true, H))
  else
    ((H.ldI .i64 c0 0).bind fun x3 =>
    some ((decide (x3 < a0)), H))
end Go.Lt.P2
