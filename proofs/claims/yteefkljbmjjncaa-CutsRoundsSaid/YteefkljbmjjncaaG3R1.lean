/- PRINTED BY A PROGRAM OF OURS: what each function that 'CutsRounds' reaches computes on the abstract heap, and that the translated code does just that. Nothing is asked of the input. -/
import Derived.Test.YteefkljbmjjncaaG3R0
set_option linter.unusedVariables false
set_option linter.unusedSimpArgs false
set_option maxRecDepth 100000
set_option maxHeartbeats 4000000
namespace Go.Lt.P2
open Go Go.Lt Go.Proofs
/- 61 congou/congouref02.Floor -/
def ret61 : Int → AV := fun r => .int .i64 r
noncomputable def r61 (a0_0 : Int) (a0_1 : Int) (H : Hp) : Option (Int × Hp) :=
  lt (H.push (.cells [.int .i64 a0_0, .int .i64 a0_1] false)) fun H1 =>
  (H1.ldI .i64 H.n (0 + 0)).bind fun x2 =>
  (H1.ldI .i64 H.n (0 + 1)).bind fun x3 =>
  ck (x3 ≠ 0) (
  (H1.ldI .i64 H.n (0 + 1)).bind fun x5 =>
  (H1.ldI .i64 H.n (0 + 0)).bind fun x6 =>
  if x6 < (w64 ((w64 (Int.tdiv x2 x3)) * x5)) then
    (some (w64 ((w64 (Int.tdiv x2 x3)) - 1), H1))
  else
    (some (w64 (Int.tdiv x2 x3), H1)))
/- 22 congou/congouref02.InRound -/
def ret22 : Bool → AV := fun r => .bool r
noncomputable def r22_l1 (kt0 : Nat → Sl → Int → Hp → Option (Bool × Hp)) : Nat → Nat → Sl → Int → Int → Hp → Option (Bool × Hp)
  | 0, _, _, _, _, _ => none
  | k_ + 1, v1, v2, v3, v4, H => if v4 ≤ 24 then
    ((r60 v2 v3 v4 H).bind fun p2 =>
    ((p2.2.push (.cells [.int .i64 0, .int .i64 0] false)).sts p2.2.n 0 [.int .i64 p2.1.1, .int .i64 p2.1.2.1]).bind fun H3 =>
    if p2.1.2.2 ≠ 0 then
      (some (false, H3))
    else
      ((H3.ldI .i64 v1 ((0 + 0) + 0)).bind fun x5 =>
      (H3.ldI .i64 v1 ((0 + 2) + 1)).bind fun x6 =>
      (H3.ldI .i64 v1 ((0 + 2) + 0)).bind fun x7 =>
      (H3.ldI .i64 v1 ((0 + 0) + 1)).bind fun x8 =>
      (H3.ldI .i64 p2.2.n 0).bind fun x9 =>
      (H3.ldI .i64 p2.2.n (0 + 1)).bind fun x10 =>
      (r61 x9 x10 H0).bind fun p11 =>
      (H3.ldI .i64 v1 ((0 + 0) + 1)).bind fun x12 =>
      (H3.ldI .i64 v1 ((0 + 2) + 1)).bind fun x13 =>
      if (w64 ((w64 (p11.1 * x12)) * x13)) < (w64 ((w64 ((w64 (v3 * x5)) * x6)) + (w64 ((w64 (v4 * x7)) * x8)))) then
        (some (false, H3))
      else
        (r22_l1 kt0 k_ v1 v2 v3 (w64 (v4 + 1)) H3)))
  else
    (kt0 v1 v2 (w64 (v3 + 1)) H)
noncomputable def r22_l0 : Nat → Nat → Sl → Int → Hp → Option (Bool × Hp)
  | 0, _, _, _, _ => none
  | k_ + 1, v1, v2, v3, H => if v3 ≤ 24 then
    (r22_l1 (fun v1_ v2_ v3_ H_ => r22_l0 k_ v1_ v2_ v3_ H_) FUEL v1 v2 v3 (-24) H)
  else
    (some (true, H))
noncomputable def r22 (a0 : Sl) (a1_0 : Int) (a1_1 : Int) (a1_2 : Int) (a1_3 : Int) (H : Hp) : Option (Bool × Hp) :=
  lt (H.push (.cells [.int .i64 a1_0, .int .i64 a1_1, .int .i64 a1_2, .int .i64 a1_3] false)) fun H1 =>
  (r54 a0 H1).bind fun p2 =>
  r22_l0 FUEL H.n p2.1 (-24) p2.2
/- 3 congou/congoulaw02.CutsRounds -/
def ret3 : Bool → AV := fun r => .bool r
noncomputable def r3_j0 (app : App) (v1 : Sl) (v2 : Nat) (v3 : Bool) (v4 : Int) (v5 : Bool) (H : Hp) : Option (Bool × Hp) :=
  if v5 = true then
    (if v3 = true then
      (some (false, H))
    else
      (if v4 = 2 then
        ((app 21 [] H).bind fun p4 =>
        (p4.1.asB).bind fun x5 =>
        some (x5, p4.2))
      else
        (some (false, H))))
  else
    ((H.ldI .i64 v2 0).bind fun x6 =>
    (H.ldI .i64 v2 (0 + 1)).bind fun x7 =>
    (H.ldI .i64 v2 (0 + 2)).bind fun x8 =>
    (H.ldI .i64 v2 (0 + 3)).bind fun x9 =>
    (r22 v1 x6 x7 x8 x9 H).bind fun p10 =>
    if (v3 == p10.1) = true then
      (if v4 = 0 then
        ((app 21 [] p10.2).bind fun p13 =>
        (p13.1.asB).bind fun x14 =>
        some (x14, p13.2))
      else
        (some (false, p10.2)))
    else
      (some (false, p10.2)))
noncomputable def r3 (app : App) (a0 : Sl) (a1_0 : Int) (a1_1 : Int) (a1_2 : Int) (a1_3 : Int) (H : Hp) : Option (Bool × Hp) :=
  lt (H.push (.cells [.int .i64 a1_0, .int .i64 a1_1, .int .i64 a1_2, .int .i64 a1_3] false)) fun H1 =>
  (r18 a0 H1).bind fun p2 =>
  (p2.2.ldI .i64 H.n (0 + 0)).bind fun x3 =>
  (p2.2.ldI .i64 H.n ((0 + 0) + 1)).bind fun x4 =>
  (p2.2.ldI .i64 H.n (0 + 2)).bind fun x5 =>
  (p2.2.ldI .i64 H.n ((0 + 2) + 1)).bind fun x6 =>
  (r17 app p2.1 x3 x4 x5 x6 p2.2).bind fun p7 =>
  ck (H1.ldI .i64 H.n (0 + 0) = some x3) (
  ck (H1.ldI .i64 H.n ((0 + 0) + 1) = some x4) (
  ck (H1.ldI .i64 H.n (0 + 2) = some x5) (
  ck (H1.ldI .i64 H.n ((0 + 2) + 1) = some x6) (
  (r19 a0 p7.2).bind fun p12 =>
  if p12.1 = true then
    ((p12.2.ldI .i64 H.n 0).bind fun x14 =>
    (p12.2.ldI .i64 H.n (0 + 1)).bind fun x15 =>
    (p12.2.ldI .i64 H.n (0 + 2)).bind fun x16 =>
    (p12.2.ldI .i64 H.n (0 + 3)).bind fun x17 =>
    (r20 x14 x15 x16 x17 H0).bind fun p18 =>
    r3_j0 app a0 H.n p7.1.1 p7.1.2 (!p18.1) p12.2)
  else
    (r3_j0 app a0 H.n p7.1.1 p7.1.2 true p12.2)))))
/- 97 congou/cuts.cross -/
def ret97 : Int → AV := fun r => .int .i64 r
noncomputable def r97 (a0 : Int) (a1 : Int) (a2 : Int) (a3 : Int) (H : Hp) : Option (Int × Hp) :=
  some (w64 ((w64 (a0 * a3)) - (w64 (a1 * a2))), H)
/- 96 (congou/cuts.Side).meet -/
def ret96 : Int × Int × Int × Int × Bool → AV := fun r => .tup [.agg [.int .i64 r.1, .int .i64 r.2.1, .int .i64 r.2.2.1, .int .i64 r.2.2.2.1], .bool r.2.2.2.2]
noncomputable def r96 (a0_0 : Int) (a0_1 : Int) (a0_2 : Int) (a1_0 : Int) (a1_1 : Int) (a1_2 : Int) (H : Hp) : Option ((Int × Int × Int × Int × Bool) × Hp) :=
  lt (((H.push (.cells [.int .i64 a0_0, .int .i64 a0_1, .int .i64 a0_2] false)).push (.cells [.int .i64 a1_0, .int .i64 a1_1, .int .i64 a1_2] false)).push (.cells [.int .i64 0, .int .i64 0, .int .i64 0, .int .i64 0] false)) fun H1 =>
  (H1.ldI .i64 H.n (0 + 0)).bind fun x2 =>
  (H1.ldI .i64 H.n (0 + 1)).bind fun x3 =>
  (H1.ldI .i64 ((H.push (.cells [.int .i64 a0_0, .int .i64 a0_1, .int .i64 a0_2] false)).n) (0 + 0)).bind fun x4 =>
  (H1.ldI .i64 ((H.push (.cells [.int .i64 a0_0, .int .i64 a0_1, .int .i64 a0_2] false)).n) (0 + 1)).bind fun x5 =>
  (r97 x2 x3 x4 x5 H0).bind fun p6 =>
  if p6.1 = 0 then
    ((H1.sts (((H.push (.cells [.int .i64 a0_0, .int .i64 a0_1, .int .i64 a0_2] false)).push (.cells [.int .i64 a1_0, .int .i64 a1_1, .int .i64 a1_2] false)).n) 0 [.int .i64 0, .int .i64 0, .int .i64 0, .int .i64 0]).bind fun H8 =>
    (H8.ldI .i64 (((H.push (.cells [.int .i64 a0_0, .int .i64 a0_1, .int .i64 a0_2] false)).push (.cells [.int .i64 a1_0, .int .i64 a1_1, .int .i64 a1_2] false)).n) 0).bind fun x9 =>
    (H8.ldI .i64 (((H.push (.cells [.int .i64 a0_0, .int .i64 a0_1, .int .i64 a0_2] false)).push (.cells [.int .i64 a1_0, .int .i64 a1_1, .int .i64 a1_2] false)).n) (0 + 1)).bind fun x10 =>
    (H8.ldI .i64 (((H.push (.cells [.int .i64 a0_0, .int .i64 a0_1, .int .i64 a0_2] false)).push (.cells [.int .i64 a1_0, .int .i64 a1_1, .int .i64 a1_2] false)).n) (0 + 2)).bind fun x11 =>
    (H8.ldI .i64 (((H.push (.cells [.int .i64 a0_0, .int .i64 a0_1, .int .i64 a0_2] false)).push (.cells [.int .i64 a1_0, .int .i64 a1_1, .int .i64 a1_2] false)).n) (0 + 3)).bind fun x12 =>
    some ((x9, x10, x11, x12, false), H8))
  else
    ((H1.ldI .i64 H.n (0 + 2)).bind fun x13 =>
    (H1.ldI .i64 ((H.push (.cells [.int .i64 a0_0, .int .i64 a0_1, .int .i64 a0_2] false)).n) (0 + 1)).bind fun x14 =>
    (H1.ldI .i64 ((H.push (.cells [.int .i64 a0_0, .int .i64 a0_1, .int .i64 a0_2] false)).n) (0 + 2)).bind fun x15 =>
    (H1.ldI .i64 H.n (0 + 1)).bind fun x16 =>
    (r100 (w64 ((w64 (x13 * x14)) - (w64 (x15 * x16)))) p6.1 H0).bind fun p17 =>
    (H1.ldI .i64 H.n (0 + 0)).bind fun x18 =>
    (H1.ldI .i64 ((H.push (.cells [.int .i64 a0_0, .int .i64 a0_1, .int .i64 a0_2] false)).n) (0 + 2)).bind fun x19 =>
    (H1.ldI .i64 ((H.push (.cells [.int .i64 a0_0, .int .i64 a0_1, .int .i64 a0_2] false)).n) (0 + 0)).bind fun x20 =>
    (H1.ldI .i64 H.n (0 + 2)).bind fun x21 =>
    (r100 (w64 ((w64 (x18 * x19)) - (w64 (x20 * x21)))) p6.1 H0).bind fun p22 =>
    (H1.sts (((H.push (.cells [.int .i64 a0_0, .int .i64 a0_1, .int .i64 a0_2] false)).push (.cells [.int .i64 a1_0, .int .i64 a1_1, .int .i64 a1_2] false)).n) 0 [.int .i64 p17.1.1, .int .i64 p17.1.2, .int .i64 p22.1.1, .int .i64 p22.1.2]).bind fun H23 =>
    (H23.ldI .i64 (((H.push (.cells [.int .i64 a0_0, .int .i64 a0_1, .int .i64 a0_2] false)).push (.cells [.int .i64 a1_0, .int .i64 a1_1, .int .i64 a1_2] false)).n) 0).bind fun x24 =>
    (H23.ldI .i64 (((H.push (.cells [.int .i64 a0_0, .int .i64 a0_1, .int .i64 a0_2] false)).push (.cells [.int .i64 a1_0, .int .i64 a1_1, .int .i64 a1_2] false)).n) (0 + 1)).bind fun x25 =>
    (H23.ldI .i64 (((H.push (.cells [.int .i64 a0_0, .int .i64 a0_1, .int .i64 a0_2] false)).push (.cells [.int .i64 a1_0, .int .i64 a1_1, .int .i64 a1_2] false)).n) (0 + 2)).bind fun x26 =>
    (H23.ldI .i64 (((H.push (.cells [.int .i64 a0_0, .int .i64 a0_1, .int .i64 a0_2] false)).push (.cells [.int .i64 a1_0, .int .i64 a1_1, .int .i64 a1_2] false)).n) (0 + 3)).bind fun x27 =>
    some ((x24, x25, x26, x27, true), H23))
/- 66 (congou/cuts.plate).corners -/
def ret66 : Unit → AV := fun _ => .tup []
noncomputable def r66_j2 (app : App) (kt1 : Sl → AV → Nat → Sl → Int → Int → Sl → Int → Int → Hp → Option (Unit × Hp)) (v1 : Sl) (v2 : AV) (v3 : Nat) (v4 : Sl) (v5 : Int) (v6 : Int) (v7 : Sl) (v8 : Int) (v9 : Int) (v10 : Bool) (H : Hp) : Option (Unit × Hp) :=
  if v10 = true then
    (some ((), H))
  else
    (kt1 v1 v2 v3 v4 v5 v6 v7 v8 (w64 (v9 + 1)) H)
noncomputable def r66_l1 (app : App) (kt0 : Sl → AV → Sl → Int → Int → Hp → Option (Unit × Hp)) : Nat → Sl → AV → Nat → Sl → Int → Int → Sl → Int → Int → Hp → Option (Unit × Hp)
  | 0, _, _, _, _, _, _, _, _, _, _ => none
  | k_ + 1, v1, v2, v3, v4, v5, v6, v7, v8, v9, H => if v9 < v8 then
    (ck ((0 : Int) ≤ v9 ∧ v9 < (v7.len : Int)) (
    (H.ldI .i64 v7.b (v7.o + (v9 : Int).toNat * 3)).bind fun x3 =>
    (H.ldI .i64 v7.b ((v7.o + (v9 : Int).toNat * 3) + 1)).bind fun x4 =>
    (H.ldI .i64 v7.b ((v7.o + (v9 : Int).toNat * 3) + 2)).bind fun x5 =>
    ((H.push (.cells [.int .i64 0, .int .i64 0, .int .i64 0] false)).sts H.n 0 [.int .i64 x3, .int .i64 x4, .int .i64 x5]).bind fun H6 =>
    (H6.ldI .i64 v3 0).bind fun x7 =>
    (H6.ldI .i64 v3 (0 + 1)).bind fun x8 =>
    (H6.ldI .i64 v3 (0 + 2)).bind fun x9 =>
    (H6.ldI .i64 H.n 0).bind fun x10 =>
    (H6.ldI .i64 H.n (0 + 1)).bind fun x11 =>
    (H6.ldI .i64 H.n (0 + 2)).bind fun x12 =>
    (r96 x7 x8 x9 x10 x11 x12 H0).bind fun p13 =>
    ((H6.push (.cells [.int .i64 0, .int .i64 0, .int .i64 0, .int .i64 0] false)).sts H6.n 0 [.int .i64 p13.1.1, .int .i64 p13.1.2.1, .int .i64 p13.1.2.2.1, .int .i64 p13.1.2.2.2.1]).bind fun H14 =>
    if p13.1.2.2.2.2 = true then
      ((H14.ldI .i64 H6.n 0).bind fun x16 =>
      (H14.ldI .i64 H6.n (0 + 1)).bind fun x17 =>
      (H14.ldI .i64 H6.n (0 + 2)).bind fun x18 =>
      (H14.ldI .i64 H6.n (0 + 3)).bind fun x19 =>
      (r65 app v1 x16 x17 x18 x19 H14).bind fun p20 =>
      if p20.1 = true then
        ((p20.2.ldI .i64 H6.n 0).bind fun x22 =>
        (p20.2.ldI .i64 H6.n (0 + 1)).bind fun x23 =>
        (p20.2.ldI .i64 H6.n (0 + 2)).bind fun x24 =>
        (p20.2.ldI .i64 H6.n (0 + 3)).bind fun x25 =>
        (p20.2.ldI .i64 v3 0).bind fun x26 =>
        (p20.2.ldI .i64 v3 (0 + 1)).bind fun x27 =>
        (p20.2.ldI .i64 v3 (0 + 2)).bind fun x28 =>
        (p20.2.ldI .i64 H.n 0).bind fun x29 =>
        (p20.2.ldI .i64 H.n (0 + 1)).bind fun x30 =>
        (p20.2.ldI .i64 H.n (0 + 2)).bind fun x31 =>
        (callv app v2 [.agg [.int .i64 x22, .int .i64 x23, .int .i64 x24, .int .i64 x25, .int .i64 x26, .int .i64 x27, .int .i64 x28, .int .i64 x29, .int .i64 x30, .int .i64 x31]] p20.2).bind fun p32 =>
        (p32.1.asB).bind fun x33 =>
        r66_j2 app (fun v1_ v2_ v3_ v4_ v5_ v6_ v7_ v8_ v9_ H_ => r66_l1 app kt0 k_ v1_ v2_ v3_ v4_ v5_ v6_ v7_ v8_ v9_ H_) v1 v2 v3 v4 v5 v6 v7 v8 v9 (!x33) p32.2)
      else
        (r66_j2 app (fun v1_ v2_ v3_ v4_ v5_ v6_ v7_ v8_ v9_ H_ => r66_l1 app kt0 k_ v1_ v2_ v3_ v4_ v5_ v6_ v7_ v8_ v9_ H_) v1 v2 v3 v4 v5 v6 v7 v8 v9 false p20.2))
    else
      (r66_j2 app (fun v1_ v2_ v3_ v4_ v5_ v6_ v7_ v8_ v9_ H_ => r66_l1 app kt0 k_ v1_ v2_ v3_ v4_ v5_ v6_ v7_ v8_ v9_ H_) v1 v2 v3 v4 v5 v6 v7 v8 v9 false H14)))
  else
    (kt0 v1 v2 v4 v5 (w64 (v6 + 1)) H)
noncomputable def r66_l0 (app : App) : Nat → Sl → AV → Sl → Int → Int → Hp → Option (Unit × Hp)
  | 0, _, _, _, _, _, _ => none
  | k_ + 1, v1, v2, v3, v4, v5, H => if v5 < v4 then
    (ck ((0 : Int) ≤ v5 ∧ v5 < (v3.len : Int)) (
    (H.ldI .i64 v3.b (v3.o + (v5 : Int).toNat * 3)).bind fun x3 =>
    (H.ldI .i64 v3.b ((v3.o + (v5 : Int).toNat * 3) + 1)).bind fun x4 =>
    (H.ldI .i64 v3.b ((v3.o + (v5 : Int).toNat * 3) + 2)).bind fun x5 =>
    ((H.push (.cells [.int .i64 0, .int .i64 0, .int .i64 0] false)).sts H.n 0 [.int .i64 x3, .int .i64 x4, .int .i64 x5]).bind fun H6 =>
    ck (((0 : Int) ≤ 0 ∧ 0 ≤ v5 ∧ v5 ≤ (v1.cap : Int)) ∧ (v1.opn = 0 ∨ v1.opn = 3)) (
    r66_l1 app (fun v1_ v2_ v3_ v4_ v5_ H_ => r66_l0 app k_ v1_ v2_ v3_ v4_ v5_ H_) FUEL v1 v2 H.n v3 v4 v5 (v1.cut 3 (0 : Int).toNat (v5 : Int).toNat) ((v1.cut 3 (0 : Int).toNat (v5 : Int).toNat).len : Int) 0 H6)))
  else
    (some ((), H))
noncomputable def r66 (app : App) (a0 : Sl) (a1 : AV) (H : Hp) : Option (Unit × Hp) :=
  r66_l0 app FUEL a0 a1 a0 (a0.len : Int) 0 H
/- 67 (congou/cuts.corner).between -/
def ret67 : Unit → AV := fun _ => .tup []
noncomputable def r67_j2 (app : App) (kt1 : AV → Nat → Int → Int → Int → Hp → Option (Unit × Hp)) (v1 : AV) (v2 : Nat) (v3 : Int) (v4 : Int) (v5 : Int) (v6 : Bool) (H : Hp) : Option (Unit × Hp) :=
  if v6 = true then
    (some ((), H))
  else
    (kt1 v1 v2 v3 v4 (w64 (v5 + 1)) H)
noncomputable def r67_j3 (app : App) (kt1 : AV → Nat → Int → Int → Int → Hp → Option (Unit × Hp)) (v1 : AV) (v2 : Nat) (v3 : Int) (v4 : Int) (v5 : Int) (v6 : Int) (v7 : Int) (H : Hp) : Option (Unit × Hp) :=
  if 0 ≤ v6 then
    (if 0 ≤ v7 then
      (if v6 ≤ (if v3 < (w64 (0 - v3)) then (w64 (0 - v3)) else v3) then
        (if v7 ≤ (if v3 < (w64 (0 - v3)) then (w64 (0 - v3)) else v3) then
          ((callv app v1 [.int .i64 v4, .int .i64 v5] H).bind fun p5 =>
          (p5.1.asB).bind fun x6 =>
          r67_j2 app kt1 v1 v2 v3 v4 v5 (!x6) p5.2)
        else
          (r67_j2 app kt1 v1 v2 v3 v4 v5 false H))
      else
        (r67_j2 app kt1 v1 v2 v3 v4 v5 false H))
    else
      (r67_j2 app kt1 v1 v2 v3 v4 v5 false H))
  else
    (r67_j2 app kt1 v1 v2 v3 v4 v5 false H)
noncomputable def r67_l1 (app : App) (kt0 : AV → Nat → Int → Int → Hp → Option (Unit × Hp)) : Nat → AV → Nat → Int → Int → Int → Hp → Option (Unit × Hp)
  | 0, _, _, _, _, _, _ => none
  | k_ + 1, v1, v2, v3, v4, v5, H => if v5 ≤ 8 then
    ((H.ldI .i64 v2 ((0 + 7) + 0)).bind fun x2 =>
    (H.ldI .i64 v2 ((0 + 7) + 1)).bind fun x3 =>
    (r97 v4 v5 x2 x3 H0).bind fun p4 =>
    (H.ldI .i64 v2 ((0 + 4) + 0)).bind fun x5 =>
    (H.ldI .i64 v2 ((0 + 4) + 1)).bind fun x6 =>
    (r97 x5 x6 v4 v5 H0).bind fun p7 =>
    if v3 < 0 then
      (r67_j3 app (fun v1_ v2_ v3_ v4_ v5_ H_ => r67_l1 app kt0 k_ v1_ v2_ v3_ v4_ v5_ H_) v1 v2 v3 v4 v5 (w64 (0 - p4.1)) (w64 (0 - p7.1)) H)
    else
      (r67_j3 app (fun v1_ v2_ v3_ v4_ v5_ H_ => r67_l1 app kt0 k_ v1_ v2_ v3_ v4_ v5_ H_) v1 v2 v3 v4 v5 p4.1 p7.1 H))
  else
    (kt0 v1 v2 v3 (w64 (v4 + 1)) H)
noncomputable def r67_l0 (app : App) : Nat → AV → Nat → Int → Int → Hp → Option (Unit × Hp)
  | 0, _, _, _, _, _ => none
  | k_ + 1, v1, v2, v3, v4, H => if v4 ≤ 8 then
    (r67_l1 app (fun v1_ v2_ v3_ v4_ H_ => r67_l0 app k_ v1_ v2_ v3_ v4_ H_) FUEL v1 v2 v3 v4 (-8) H)
  else
    (some ((), H))
noncomputable def r67 (app : App) (a0_0 : Int) (a0_1 : Int) (a0_2 : Int) (a0_3 : Int) (a0_4 : Int) (a0_5 : Int) (a0_6 : Int) (a0_7 : Int) (a0_8 : Int) (a0_9 : Int) (a1 : AV) (H : Hp) : Option (Unit × Hp) :=
  lt (H.push (.cells [.int .i64 a0_0, .int .i64 a0_1, .int .i64 a0_2, .int .i64 a0_3, .int .i64 a0_4, .int .i64 a0_5, .int .i64 a0_6, .int .i64 a0_7, .int .i64 a0_8, .int .i64 a0_9] false)) fun H1 =>
  (H1.ldI .i64 H.n ((0 + 4) + 0)).bind fun x2 =>
  (H1.ldI .i64 H.n ((0 + 4) + 1)).bind fun x3 =>
  (H1.ldI .i64 H.n ((0 + 7) + 0)).bind fun x4 =>
  (H1.ldI .i64 H.n ((0 + 7) + 1)).bind fun x5 =>
  (r97 x2 x3 x4 x5 H0).bind fun p6 =>
  r67_l0 app FUEL a1 H.n p6.1 (-8) H1
/- 93 (congou/cuts.plate).valid$1 -/
def ret93 : Bool → AV := fun r => .bool r
noncomputable def r93 (a0_0 : Int) (a0_1 : Int) (a0_2 : Int) (c0 : Nat) (H : Hp) : Option (Bool × Hp) :=
  lt (H.push (.cells [.int .i64 a0_0, .int .i64 a0_1, .int .i64 a0_2] false)) fun H1 =>
  (H1.ldI .i64 H.n (0 + 0)).bind fun x2 =>
  (H1.ldI .i64 c0 (0 + (0 : Int).toNat * 1)).bind fun x3 =>
  (H1.ldI .i64 H.n (0 + 1)).bind fun x4 =>
  (H1.ldI .i64 c0 (0 + (1 : Int).toNat * 1)).bind fun x5 =>
  some ((decide (0 < (w64 ((w64 (x2 * x3)) + (w64 (x4 * x5)))))), H1)
/- 95 (congou/cuts.plate).has$1 -/
def ret95 : Bool → AV := fun r => .bool r
noncomputable def r95 (a0_0 : Int) (a0_1 : Int) (a0_2 : Int) (c0 : Nat) (H : Hp) : Option (Bool × Hp) :=
  lt (H.push (.cells [.int .i64 a0_0, .int .i64 a0_1, .int .i64 a0_2] false)) fun H1 =>
  (H1.ldI .i64 H.n 0).bind fun x2 =>
  (H1.ldI .i64 H.n (0 + 1)).bind fun x3 =>
  (H1.ldI .i64 H.n (0 + 2)).bind fun x4 =>
  (H1.ldI .i64 c0 0).bind fun x5 =>
  (H1.ldI .i64 c0 (0 + 1)).bind fun x6 =>
  (H1.ldI .i64 c0 (0 + 2)).bind fun x7 =>
  (H1.ldI .i64 c0 (0 + 3)).bind fun x8 =>
  (r70 x2 x3 x4 x5 x6 x7 x8 H0).bind fun p9 =>
  some ((!p9.1), H1)
/- 106 congou/cuts.within$1 -/
def ret106 : Bool → AV := fun r => .bool r
noncomputable def r106 (a0 : Int) (c0 : Nat) (H : Hp) : Option (Bool × Hp) :=
  (H.ldI .i64 c0 0).bind fun x1 =>
  if a0 < (w64 (0 - x1)) then
    (some (true, H))
  else
    ((H.ldI .i64 c0 0).bind fun x3 =>
    some ((decide (x3 < a0)), H))
end Go.Lt.P2
