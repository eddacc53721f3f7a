/- PRINTED BY A PROGRAM OF OURS: what each function that 'DealsAbove' reaches computes on the abstract heap, and that the translated code does just that. Nothing is asked of the input. -/
import Derived.Test.YtficeemoekikdaaG11R1
set_option linter.unusedVariables false
set_option linter.unusedSimpArgs false
set_option maxRecDepth 100000
set_option maxHeartbeats 4000000
namespace Go.Lt.P5
open Go Go.Lt Go.Proofs
/- 11 congou/congoulaw05.DealsAbove -/
def ret11 : Bool → AV := fun r => .bool r
noncomputable def r11_j6 (app : App) (kt5 : Sl → Int → Nat → Int → Int → Int → Int → Int → Int → Int → Int → Int → Int → Int → Int → Int → Sl → Int → Int → Hp → Option (Bool × Hp)) (v1 : Sl) (v2 : Int) (v3 : Nat) (v4 : Int) (v5 : Int) (v6 : Int) (v7 : Int) (v8 : Int) (v9 : Int) (v10 : Int) (v11 : Int) (v12 : Int) (v13 : Int) (v14 : Int) (v15 : Int) (v16 : Int) (v17 : Sl) (v18 : Int) (v19 : Int) (v20 : Bool) (H : Hp) : Option (Bool × Hp) :=
  if v20 = true then
    (some (false, H))
  else
    (kt5 v1 v2 v3 v4 v5 v6 v7 v8 v9 v10 v11 v12 v13 v14 v15 v16 v17 v18 (w64 (v19 + 1)) H)
noncomputable def r11_l5 (app : App) (kt0 : Sl → Int → Nat → Int → Int → Int → Int → Int → Int → Int → Int → Int → Int → Int → Int → Int → Hp → Option (Bool × Hp)) : Nat → Sl → Int → Nat → Int → Int → Int → Int → Int → Int → Int → Int → Int → Int → Int → Int → Int → Sl → Int → Int → Hp → Option (Bool × Hp)
  | 0, _, _, _, _, _, _, _, _, _, _, _, _, _, _, _, _, _, _, _, _ => none
  | k_ + 1, v1, v2, v3, v4, v5, v6, v7, v8, v9, v10, v11, v12, v13, v14, v15, v16, v17, v18, v19, H => if v19 < v18 then
    (ck ((0 : Int) ≤ v19 ∧ v19 < (v17.len : Int)) (
    (H.ldI .i64 v17.b (v17.o + (v19 : Int).toNat * 4)).bind fun x3 =>
    (H.ldI .i64 v17.b ((v17.o + (v19 : Int).toNat * 4) + 1)).bind fun x4 =>
    (H.ldI .i64 v17.b ((v17.o + (v19 : Int).toNat * 4) + 2)).bind fun x5 =>
    (H.ldI .i64 v17.b ((v17.o + (v19 : Int).toNat * 4) + 3)).bind fun x6 =>
    ((H.push (.cells [.int .i64 0, .int .i64 0, .int .i64 0, .int .i64 0] false)).sts H.n 0 [.int .i64 x3, .int .i64 x4, .int .i64 x5, .int .i64 x6]).bind fun H7 =>
    (r24 v1 H7).bind fun p8 =>
    (p8.2.ldI .i64 H.n (0 + (0 : Int).toNat * 2)).bind fun x9 =>
    (p8.2.ldI .i64 H.n ((0 + (0 : Int).toNat * 2) + 1)).bind fun x10 =>
    (p8.2.ldI .i64 H.n (0 + (1 : Int).toNat * 2)).bind fun x11 =>
    (p8.2.ldI .i64 H.n ((0 + (1 : Int).toNat * 2) + 1)).bind fun x12 =>
    (r23 app p8.1 x9 x10 x11 x12 p8.2).bind fun p13 =>
    ck (H7.ldI .i64 H.n (0 + (0 : Int).toNat * 2) = some x9) (
    ck (H7.ldI .i64 H.n ((0 + (0 : Int).toNat * 2) + 1) = some x10) (
    ck (H7.ldI .i64 H.n (0 + (1 : Int).toNat * 2) = some x11) (
    ck (H7.ldI .i64 H.n ((0 + (1 : Int).toNat * 2) + 1) = some x12) (
    if p13.1.1 = true then
      (r11_j6 app (fun v1_ v2_ v3_ v4_ v5_ v6_ v7_ v8_ v9_ v10_ v11_ v12_ v13_ v14_ v15_ v16_ v17_ v18_ v19_ H_ => r11_l5 app kt0 k_ v1_ v2_ v3_ v4_ v5_ v6_ v7_ v8_ v9_ v10_ v11_ v12_ v13_ v14_ v15_ v16_ v17_ v18_ v19_ H_) v1 v2 v3 v4 v5 v6 v7 v8 v9 v10 v11 v12 v13 v14 v15 v16 v17 v18 v19 true p13.2)
    else
      (if p13.1.2 ≠ 0 then
        (r11_j6 app (fun v1_ v2_ v3_ v4_ v5_ v6_ v7_ v8_ v9_ v10_ v11_ v12_ v13_ v14_ v15_ v16_ v17_ v18_ v19_ H_ => r11_l5 app kt0 k_ v1_ v2_ v3_ v4_ v5_ v6_ v7_ v8_ v9_ v10_ v11_ v12_ v13_ v14_ v15_ v16_ v17_ v18_ v19_ H_) v1 v2 v3 v4 v5 v6 v7 v8 v9 v10 v11 v12 v13 v14 v15 v16 v17 v18 v19 (decide (p13.1.2 ≠ 2)) p13.2)
      else
        (r11_j6 app (fun v1_ v2_ v3_ v4_ v5_ v6_ v7_ v8_ v9_ v10_ v11_ v12_ v13_ v14_ v15_ v16_ v17_ v18_ v19_ H_ => r11_l5 app kt0 k_ v1_ v2_ v3_ v4_ v5_ v6_ v7_ v8_ v9_ v10_ v11_ v12_ v13_ v14_ v15_ v16_ v17_ v18_ v19_ H_) v1 v2 v3 v4 v5 v6 v7 v8 v9 v10 v11 v12 v13 v14 v15 v16 v17 v18 v19 false p13.2))))))))
  else
    (kt0 v1 v2 v3 v4 v5 v6 v7 v8 v9 v10 v11 v12 v13 v14 v15 (w64 (v16 + 1)) H)
noncomputable def r11_j3 (app : App) (kt0 : Sl → Int → Nat → Int → Int → Int → Int → Int → Int → Int → Int → Int → Int → Int → Int → Int → Hp → Option (Bool × Hp)) (v1 : Sl) (v2 : Int) (v3 : Nat) (v4 : Int) (v5 : Nat) (v6 : Nat) (v7 : Nat) (v8 : Int) (v9 : Int) (v10 : Int) (v11 : Int) (v12 : Int) (v13 : Int) (v14 : Int) (v15 : Int) (v16 : Int) (v17 : Int) (v18 : Int) (v19 : Int) (v20 : Int) (v21 : Bool) (H : Hp) : Option (Bool × Hp) :=
  if v21 = true then
    (some (false, H))
  else
    (if 0 < v4 then
      (kt0 v1 v2 v3 v8 v9 v10 v11 v12 v13 v14 v15 v16 v17 v18 v19 (w64 (v20 + 1)) H)
    else
      ((H.ldI .i64 v6 0).bind fun x3 =>
      (H.ldI .i64 v6 (0 + 1)).bind fun x4 =>
      (H.ldI .i64 v5 (0 + 2)).bind fun x5 =>
      (H.ldI .i64 v5 ((0 + 2) + 1)).bind fun x6 =>
      (H.ldI .i64 v5 (0 + 0)).bind fun x7 =>
      (H.ldI .i64 v5 ((0 + 0) + 1)).bind fun x8 =>
      (H.ldI .i64 v7 0).bind fun x9 =>
      (H.ldI .i64 v7 (0 + 1)).bind fun x10 =>
      lt (H.push (.cells [.int .i64 x3, .int .i64 x4, .int .i64 x5, .int .i64 x6, .int .i64 x7, .int .i64 x8, .int .i64 x9, .int .i64 x10] false)) fun H11 =>
      r11_l5 app kt0 FUEL v1 v2 v3 v8 v9 v10 v11 v12 v13 v14 v15 v16 v17 v18 v19 v20 ⟨false, H.n, 0, 2, 2, 0⟩ ((⟨false, H.n, 0, 2, 2, 0⟩ : Sl).len : Int) 0 H11))
noncomputable def r11_j4 (app : App) (kt0 : Sl → Int → Nat → Int → Int → Int → Int → Int → Int → Int → Int → Int → Int → Int → Int → Int → Hp → Option (Bool × Hp)) (v1 : Sl) (v2 : Int) (v3 : Nat) (v4 : Int) (v5 : Nat) (v6 : Int) (v7 : Int) (v8 : Int) (v9 : Int) (v10 : Int) (v11 : Int) (v12 : Int) (v13 : Int) (v14 : Int) (v15 : Int) (v16 : Int) (v17 : Int) (v18 : Int) (v19 : Bool) (H : Hp) : Option (Bool × Hp) :=
  if v19 = true then
    (some (false, H))
  else
    ((H.ldI .i64 v5 ((0 + 0) + 0)).bind fun x2 =>
    (H.ldI .i64 v5 ((0 + 0) + 1)).bind fun x3 =>
    (H.ldI .i64 v5 ((0 + 0) + 1)).bind fun x4 =>
    (r43 (w64 ((w64 (x2 * v2)) + x3)) (w64 (x4 * v2)) H0).bind fun p5 =>
    (H.ldI .i64 v5 ((0 + 2) + 0)).bind fun x6 =>
    (H.ldI .i64 v5 ((0 + 2) + 1)).bind fun x7 =>
    (H.ldI .i64 v5 ((0 + 2) + 1)).bind fun x8 =>
    (r43 (w64 ((w64 (x6 * v2)) + x7)) (w64 (x8 * v2)) H0).bind fun p9 =>
    (((H.push (.cells [.int .i64 0, .int .i64 0] false)).push (.cells [.int .i64 0, .int .i64 0] false)).sts H.n 0 [.int .i64 p5.1.1, .int .i64 p5.1.2]).bind fun H10 =>
    (H10.sts ((H.push (.cells [.int .i64 0, .int .i64 0] false)).n) 0 [.int .i64 p9.1.1, .int .i64 p9.1.2]).bind fun H11 =>
    (r24 v1 H11).bind fun p12 =>
    (p12.2.ldI .i64 H.n 0).bind fun x13 =>
    (p12.2.ldI .i64 H.n (0 + 1)).bind fun x14 =>
    (p12.2.ldI .i64 ((H.push (.cells [.int .i64 0, .int .i64 0] false)).n) 0).bind fun x15 =>
    (p12.2.ldI .i64 ((H.push (.cells [.int .i64 0, .int .i64 0] false)).n) (0 + 1)).bind fun x16 =>
    (r23 app p12.1 x13 x14 x15 x16 p12.2).bind fun p17 =>
    ck (H11.ldI .i64 H.n 0 = some x13) (
    ck (H11.ldI .i64 H.n (0 + 1) = some x14) (
    ck (H11.ldI .i64 ((H.push (.cells [.int .i64 0, .int .i64 0] false)).n) 0 = some x15) (
    ck (H11.ldI .i64 ((H.push (.cells [.int .i64 0, .int .i64 0] false)).n) (0 + 1) = some x16) (
    if p17.1.1 = true then
      (r11_j3 app kt0 v1 v2 v3 v4 v5 H.n ((H.push (.cells [.int .i64 0, .int .i64 0] false)).n) v6 v7 v8 v9 v10 v11 v12 v13 v14 v15 v16 v17 v18 true p17.2)
    else
      (if p17.1.2 ≠ 0 then
        (r11_j3 app kt0 v1 v2 v3 v4 v5 H.n ((H.push (.cells [.int .i64 0, .int .i64 0] false)).n) v6 v7 v8 v9 v10 v11 v12 v13 v14 v15 v16 v17 v18 (decide (p17.1.2 ≠ 2)) p17.2)
      else
        (r11_j3 app kt0 v1 v2 v3 v4 v5 H.n ((H.push (.cells [.int .i64 0, .int .i64 0] false)).n) v6 v7 v8 v9 v10 v11 v12 v13 v14 v15 v16 v17 v18 false p17.2)))))))
noncomputable def r11_j2 (app : App) (kt0 : Sl → Int → Nat → Int → Int → Int → Int → Int → Int → Int → Int → Int → Int → Int → Int → Int → Hp → Option (Bool × Hp)) (v1 : Sl) (v2 : Int) (v3 : Nat) (v4 : Int) (v5 : Nat) (v6 : Int) (v7 : Int) (v8 : Int) (v9 : Int) (v10 : Int) (v11 : Int) (v12 : Int) (v13 : Int) (v14 : Int) (v15 : Int) (v16 : Int) (v17 : Int) (v18 : Int) (v19 : Bool) (H : Hp) : Option (Bool × Hp) :=
  if v19 = true then
    (some (false, H))
  else
    ((r24 v1 H).bind fun p2 =>
    (p2.2.ldI .i64 v5 0).bind fun x3 =>
    (p2.2.ldI .i64 v5 (0 + 1)).bind fun x4 =>
    (p2.2.ldI .i64 v5 (0 + 2)).bind fun x5 =>
    (p2.2.ldI .i64 v5 (0 + 3)).bind fun x6 =>
    (r23 app p2.1 x3 x4 x5 x6 p2.2).bind fun p7 =>
    ck (H.ldI .i64 v5 0 = some x3) (
    ck (H.ldI .i64 v5 (0 + 1) = some x4) (
    ck (H.ldI .i64 v5 (0 + 2) = some x5) (
    ck (H.ldI .i64 v5 (0 + 3) = some x6) (
    (p7.2.ldI .i64 v5 ((0 + 0) + 1)).bind fun x12 =>
    if x12 ≤ 1000000 then
      ((p7.2.ldI .i64 v5 ((0 + 2) + 1)).bind fun x14 =>
      if x14 ≤ 1000000 then
        (if p7.1.1 = true then
          (r11_j4 app kt0 v1 v2 v3 v4 v5 v6 v7 v8 v9 v10 v11 v12 v13 v14 v15 v16 v17 v18 (decide (p7.1.2 ≠ 0)) p7.2)
        else
          (r11_j4 app kt0 v1 v2 v3 v4 v5 v6 v7 v8 v9 v10 v11 v12 v13 v14 v15 v16 v17 v18 true p7.2))
      else
        (r11_j4 app kt0 v1 v2 v3 v4 v5 v6 v7 v8 v9 v10 v11 v12 v13 v14 v15 v16 v17 v18 false p7.2))
    else
      (r11_j4 app kt0 v1 v2 v3 v4 v5 v6 v7 v8 v9 v10 v11 v12 v13 v14 v15 v16 v17 v18 false p7.2))))))
noncomputable def r11_l0 (app : App) : Nat → Sl → Int → Nat → Int → Int → Int → Int → Int → Int → Int → Int → Int → Int → Int → Int → Int → Hp → Option (Bool × Hp)
  | 0, _, _, _, _, _, _, _, _, _, _, _, _, _, _, _, _, _ => none
  | k_ + 1, v1, v2, v3, v4, v5, v6, v7, v8, v9, v10, v11, v12, v13, v14, v15, v16, H => if v16 < 3 then
    (ck ((0 : Int) ≤ v16 ∧ v16 < ((3 : Nat) : Int)) (
    (apart true 4 [.int .i64 v4, .int .i64 v5, .int .i64 v6, .int .i64 v7, .int .i64 v8, .int .i64 v9, .int .i64 v10, .int .i64 v11, .int .i64 v12, .int .i64 v13, .int .i64 v14, .int .i64 v15] ((v16 : Int).toNat * 4)).bind fun x3 =>
    (x3.asA).bind fun x4 =>
    ck (x4.length = 4) (
    (x4[0]?).bind fun x6 =>
    (x6.asI .i64).bind fun x7 =>
    (x4[1]?).bind fun x8 =>
    (x8.asI .i64).bind fun x9 =>
    (x4[2]?).bind fun x10 =>
    (x10.asI .i64).bind fun x11 =>
    (x4[3]?).bind fun x12 =>
    (x12.asI .i64).bind fun x13 =>
    ((H.push (.cells [.int .i64 0, .int .i64 0, .int .i64 0, .int .i64 0] false)).sts H.n 0 [.int .i64 x7, .int .i64 x9, .int .i64 x11, .int .i64 x13]).bind fun H14 =>
    (H14.ldI .i64 H.n ((0 + 0) + 0)).bind fun x15 =>
    (H14.ldI .i64 v3 (0 + (0 : Int).toNat * 1)).bind fun x16 =>
    (H14.ldI .i64 H.n ((0 + 0) + 1)).bind fun x17 =>
    if x15 ≤ (w64 (x16 * x17)) then
      (r11_j2 app (fun v1_ v2_ v3_ v4_ v5_ v6_ v7_ v8_ v9_ v10_ v11_ v12_ v13_ v14_ v15_ v16_ H_ => r11_l0 app k_ v1_ v2_ v3_ v4_ v5_ v6_ v7_ v8_ v9_ v10_ v11_ v12_ v13_ v14_ v15_ v16_ H_) v1 v2 v3 v16 H.n v4 v5 v6 v7 v8 v9 v10 v11 v12 v13 v14 v15 v16 true H14)
    else
      ((H14.ldI .i64 H.n ((0 + 2) + 0)).bind fun x19 =>
      (H14.ldI .i64 v3 (0 + (1 : Int).toNat * 1)).bind fun x20 =>
      (H14.ldI .i64 H.n ((0 + 2) + 1)).bind fun x21 =>
      r11_j2 app (fun v1_ v2_ v3_ v4_ v5_ v6_ v7_ v8_ v9_ v10_ v11_ v12_ v13_ v14_ v15_ v16_ H_ => r11_l0 app k_ v1_ v2_ v3_ v4_ v5_ v6_ v7_ v8_ v9_ v10_ v11_ v12_ v13_ v14_ v15_ v16_ H_) v1 v2 v3 v16 H.n v4 v5 v6 v7 v8 v9 v10 v11 v12 v13 v14 v15 v16 (decide (x19 ≤ (w64 (x20 * x21)))) H14))))
  else
    ((app 19 [] H).bind fun p22 =>
    (p22.1.asB).bind fun x23 =>
    some (x23, p22.2))
noncomputable def r11_j1 (app : App) (v1 : Sl) (v2 : Int) (v3 : Nat) (v4 : Nat) (v5 : Bool) (v6 : Bool) (H : Hp) : Option (Bool × Hp) :=
  if v6 = true then
    (if v5 = true then
      ((app 19 [] H).bind fun p3 =>
      (p3.1.asB).bind fun x4 =>
      some (x4, p3.2))
    else
      (some (false, H)))
  else
    ((H.ldI .i64 v4 0).bind fun x5 =>
    (H.ldI .i64 v4 (0 + 1)).bind fun x6 =>
    (H.ldI .i64 v4 (0 + 2)).bind fun x7 =>
    (H.ldI .i64 v4 (0 + 3)).bind fun x8 =>
    (H.ldI .i64 v4 (0 + 4)).bind fun x9 =>
    (H.ldI .i64 v4 (0 + 5)).bind fun x10 =>
    (H.ldI .i64 v4 (0 + 6)).bind fun x11 =>
    (H.ldI .i64 v4 (0 + 7)).bind fun x12 =>
    (H.ldI .i64 v4 (0 + 8)).bind fun x13 =>
    (H.ldI .i64 v4 (0 + 9)).bind fun x14 =>
    (H.ldI .i64 v4 (0 + 10)).bind fun x15 =>
    (H.ldI .i64 v4 (0 + 11)).bind fun x16 =>
    r11_l0 app FUEL v1 (w64 (1 + (w64 (Int.tmod (IntKind.wrap .u64 (v2)) 1000)))) v3 x5 x6 x7 x8 x9 x10 x11 x12 x13 x14 x15 x16 0 H)
noncomputable def r11 (app : App) (a0 : Sl) (a1_0 : Int) (a1_1 : Int) (a2 : Int) (H : Hp) : Option (Bool × Hp) :=
  lt (H.push (.cells [.int .i64 a1_0, .int .i64 a1_1] false)) fun H1 =>
  (H1.ldI .i64 H.n 0).bind fun x2 =>
  (H1.ldI .i64 H.n (0 + 1)).bind fun x3 =>
  (r39 app a0 x2 x3 H1).bind fun p4 =>
  ((p4.2.push (.cells [.int .i64 0, .int .i64 0, .int .i64 0, .int .i64 0, .int .i64 0, .int .i64 0, .int .i64 0, .int .i64 0, .int .i64 0, .int .i64 0, .int .i64 0, .int .i64 0] false)).sts p4.2.n 0 [.int .i64 p4.1.1, .int .i64 p4.1.2.1, .int .i64 p4.1.2.2.1, .int .i64 p4.1.2.2.2.1, .int .i64 p4.1.2.2.2.2.1, .int .i64 p4.1.2.2.2.2.2.1, .int .i64 p4.1.2.2.2.2.2.2.1, .int .i64 p4.1.2.2.2.2.2.2.2.1, .int .i64 p4.1.2.2.2.2.2.2.2.2.1, .int .i64 p4.1.2.2.2.2.2.2.2.2.2.1, .int .i64 p4.1.2.2.2.2.2.2.2.2.2.2.1, .int .i64 p4.1.2.2.2.2.2.2.2.2.2.2.2.1]).bind fun H5 =>
  if p4.1.2.2.2.2.2.2.2.2.2.2.2.2.2 = true then
    (r11_j1 app a0 a2 H.n p4.2.n true (!p4.1.2.2.2.2.2.2.2.2.2.2.2.2.1) H5)
  else
    (r11_j1 app a0 a2 H.n p4.2.n false true H5)
/- 67 congou/deals.gain -/
def ret67 : Int × Int → AV := fun r => .agg [.int .i64 r.1, .int .i64 r.2]
noncomputable def r67_j0 (v1 : Nat) (v2 : Nat) (v3 : Nat) (v4 : Bool) (H : Hp) : Option ((Int × Int) × Hp) :=
  if v4 = true then
    ((r48 (-1) 1 H0).bind fun p2 =>
    (H.sts v1 0 [.int .i64 p2.1.1, .int .i64 p2.1.2]).bind fun H3 =>
    (H3.ldI .i64 v1 0).bind fun x4 =>
    (H3.ldI .i64 v1 (0 + 1)).bind fun x5 =>
    some ((x4, x5), H3))
  else
    ((H.ldI .i64 v2 (0 + 0)).bind fun x6 =>
    (H.ldI .i64 v3 (0 + 0)).bind fun x7 =>
    (H.ldI .i64 v2 (0 + 1)).bind fun x8 =>
    (H.ldI .i64 v3 (0 + 1)).bind fun x9 =>
    (r48 (w64 (x6 * x7)) (w64 (x8 * x9)) H0).bind fun p10 =>
    (H.sts v1 0 [.int .i64 p10.1.1, .int .i64 p10.1.2]).bind fun H11 =>
    (H11.ldI .i64 v1 0).bind fun x12 =>
    (H11.ldI .i64 v1 (0 + 1)).bind fun x13 =>
    some ((x12, x13), H11))
noncomputable def r67 (a0_0 : Int) (a0_1 : Int) (a0_2 : Int) (a0_3 : Int) (a1_0 : Int) (a1_1 : Int) (H : Hp) : Option ((Int × Int) × Hp) :=
  lt (((H.push (.cells [.int .i64 a0_0, .int .i64 a0_1, .int .i64 a0_2, .int .i64 a0_3] false)).push (.cells [.int .i64 a1_0, .int .i64 a1_1] false)).push (.cells [.int .i64 0, .int .i64 0] false)) fun H1 =>
  (H1.ldI .i64 H.n ((0 + 0) + 0)).bind fun x2 =>
  (H1.ldI .i64 ((H.push (.cells [.int .i64 a0_0, .int .i64 a0_1, .int .i64 a0_2, .int .i64 a0_3] false)).n) (0 + (0 : Int).toNat * 1)).bind fun x3 =>
  (H1.ldI .i64 H.n ((0 + 0) + 1)).bind fun x4 =>
  (H1.ldI .i64 H.n ((0 + 0) + 1)).bind fun x5 =>
  (r48 (w64 (x2 - (w64 (x3 * x4)))) x5 H0).bind fun p6 =>
  (H1.ldI .i64 H.n ((0 + 2) + 0)).bind fun x7 =>
  (H1.ldI .i64 ((H.push (.cells [.int .i64 a0_0, .int .i64 a0_1, .int .i64 a0_2, .int .i64 a0_3] false)).n) (0 + (1 : Int).toNat * 1)).bind fun x8 =>
  (H1.ldI .i64 H.n ((0 + 2) + 1)).bind fun x9 =>
  (H1.ldI .i64 H.n ((0 + 2) + 1)).bind fun x10 =>
  (r48 (w64 (x7 - (w64 (x8 * x9)))) x10 H0).bind fun p11 =>
  (((H1.push (.cells [.int .i64 0, .int .i64 0] false)).push (.cells [.int .i64 0, .int .i64 0] false)).sts H1.n 0 [.int .i64 p6.1.1, .int .i64 p6.1.2]).bind fun H12 =>
  (H12.sts ((H1.push (.cells [.int .i64 0, .int .i64 0] false)).n) 0 [.int .i64 p11.1.1, .int .i64 p11.1.2]).bind fun H13 =>
  (H13.ldI .i64 H1.n (0 + 0)).bind fun x14 =>
  if x14 < 0 then
    (r67_j0 (((H.push (.cells [.int .i64 a0_0, .int .i64 a0_1, .int .i64 a0_2, .int .i64 a0_3] false)).push (.cells [.int .i64 a1_0, .int .i64 a1_1] false)).n) H1.n ((H1.push (.cells [.int .i64 0, .int .i64 0] false)).n) true H13)
  else
    ((H13.ldI .i64 ((H1.push (.cells [.int .i64 0, .int .i64 0] false)).n) (0 + 0)).bind fun x16 =>
    r67_j0 (((H.push (.cells [.int .i64 a0_0, .int .i64 a0_1, .int .i64 a0_2, .int .i64 a0_3] false)).push (.cells [.int .i64 a1_0, .int .i64 a1_1] false)).n) H1.n ((H1.push (.cells [.int .i64 0, .int .i64 0] false)).n) (decide (x16 < 0)) H13)
/- 66 congou/deals.Product$1 -/
def ret66 : Unit → AV := fun _ => .tup []
noncomputable def r66 (a0_0 : Int) (a0_1 : Int) (a0_2 : Int) (a0_3 : Int) (c0 : Nat) (c1 : Nat) (c2 : Nat) (H : Hp) : Option (Unit × Hp) :=
  lt (H.push (.cells [.int .i64 a0_0, .int .i64 a0_1, .int .i64 a0_2, .int .i64 a0_3] false)) fun H1 =>
  (H1.ldI .i64 H.n 0).bind fun x2 =>
  (H1.ldI .i64 H.n (0 + 1)).bind fun x3 =>
  (H1.ldI .i64 H.n (0 + 2)).bind fun x4 =>
  (H1.ldI .i64 H.n (0 + 3)).bind fun x5 =>
  (H1.ldI .i64 c0 0).bind fun x6 =>
  (H1.ldI .i64 c0 (0 + 1)).bind fun x7 =>
  (r67 x2 x3 x4 x5 x6 x7 H0).bind fun p8 =>
  ((H1.push (.cells [.int .i64 0, .int .i64 0] false)).sts H1.n 0 [.int .i64 p8.1.1, .int .i64 p8.1.2]).bind fun H9 =>
  (H9.ldI .i64 H1.n 0).bind fun x10 =>
  (H9.ldI .i64 H1.n (0 + 1)).bind fun x11 =>
  (H9.ldI .i64 c1 0).bind fun x12 =>
  (H9.ldI .i64 c1 (0 + 1)).bind fun x13 =>
  (r68 x10 x11 x12 x13 H0).bind fun p14 =>
  if 0 < p14.1 then
    ((H9.ldI .i64 H.n 0).bind fun x16 =>
    (H9.ldI .i64 H.n (0 + 1)).bind fun x17 =>
    (H9.ldI .i64 H.n (0 + 2)).bind fun x18 =>
    (H9.ldI .i64 H.n (0 + 3)).bind fun x19 =>
    (H9.ldI .i64 H1.n 0).bind fun x20 =>
    (H9.ldI .i64 H1.n (0 + 1)).bind fun x21 =>
    (H9.sts c2 0 [.int .i64 x16, .int .i64 x17, .int .i64 x18, .int .i64 x19]).bind fun H22 =>
    (H22.sts c1 0 [.int .i64 x20, .int .i64 x21]).bind fun H23 =>
    ck (H22.ldI .i64 H1.n 0 = some x20) (
    ck (H22.ldI .i64 H1.n (0 + 1) = some x21) (
    some ((), H23))))
  else
    (some ((), H9))
/- 84 slices.Values[congou/deals.offers,[2]int]$1 -/
def ret84 : Unit → AV := fun _ => .tup []
noncomputable def r84_l0 (app : App) : Nat → AV → Sl → Int → Int → Hp → Option (Unit × Hp)
  | 0, _, _, _, _, _ => none
  | k_ + 1, v1, v2, v3, v4, H => if v4 < v3 then
    (ck ((0 : Int) ≤ v4 ∧ v4 < (v2.len : Int)) (
    (H.ldI .i64 v2.b (v2.o + (v4 : Int).toNat * 2)).bind fun x3 =>
    (H.ldI .i64 v2.b ((v2.o + (v4 : Int).toNat * 2) + 1)).bind fun x4 =>
    ((H.push (.cells [.int .i64 0, .int .i64 0] false)).sts H.n 0 [.int .i64 x3, .int .i64 x4]).bind fun H5 =>
    (H5.ldI .i64 H.n 0).bind fun x6 =>
    (H5.ldI .i64 H.n (0 + 1)).bind fun x7 =>
    (callv app v1 [.agg [.int .i64 x6, .int .i64 x7]] H5).bind fun p8 =>
    (p8.1.asB).bind fun x9 =>
    if x9 = true then
      (r84_l0 app k_ v1 v2 v3 (w64 (v4 + 1)) p8.2)
    else
      (some ((), p8.2))))
  else
    (some ((), H))
noncomputable def r84 (app : App) (a0 : AV) (c0 : Nat) (H : Hp) : Option (Unit × Hp) :=
  (H.ldSl c0 0).bind fun x1 =>
  r84_l0 app FUEL a0 x1 (x1.len : Int) 0 H
end Go.Lt.P5
