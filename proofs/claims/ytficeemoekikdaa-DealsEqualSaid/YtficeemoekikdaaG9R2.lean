/- PRINTED BY A PROGRAM OF OURS: what each function that 'DealsEqual' reaches computes on the abstract heap, and that the translated code does just that. Nothing is asked of the input. -/
import Derived.Test.YtficeemoekikdaaG9R1
set_option linter.unusedVariables false
set_option linter.unusedSimpArgs false
set_option maxRecDepth 100000
set_option maxHeartbeats 4000000
namespace Go.Lt.P5
open Go Go.Lt Go.Proofs
/- 9 congou/congoulaw05.DealsEqual -/
def ret9 : Bool → AV := fun r => .bool r
noncomputable def r9_l1 (app : App) (kt0 : Int → Sl → Sl → Int → Int → Hp → Option (Bool × Hp)) : Nat → Int → Sl → Sl → Int → Int → Sl → Int → Int → Hp → Option (Bool × Hp)
  | 0, _, _, _, _, _, _, _, _, _ => none
  | k_ + 1, v1, v2, v3, v4, v5, v6, v7, v8, H => if v8 < v7 then
    (ck ((0 : Int) ≤ v8 ∧ v8 < (v6.len : Int)) (
    (H.ldI .i64 v6.b (v6.o + (v8 : Int).toNat * 2)).bind fun x3 =>
    (H.ldI .i64 v6.b ((v6.o + (v8 : Int).toNat * 2) + 1)).bind fun x4 =>
    ((H.push (.cells [.int .i64 0, .int .i64 0] false)).sts H.n 0 [.int .i64 x3, .int .i64 x4]).bind fun H5 =>
    (H5.ldI .i64 H.n 0).bind fun x6 =>
    (H5.ldI .i64 H.n (0 + 1)).bind fun x7 =>
    (r32 v2 x6 x7 H5).bind fun p8 =>
    if p8.1 = true then
      (r9_l1 app kt0 k_ v1 v2 v3 v4 v5 v6 v7 (w64 (v8 + 1)) p8.2)
    else
      ((p8.2.ldI .i64 H.n 0).bind fun x10 =>
      (p8.2.ldI .i64 H.n (0 + 1)).bind fun x11 =>
      (p8.2.apN 2 v2 [.int .i64 x10, .int .i64 x11] 1).bind fun x12 =>
      r9_l1 app kt0 k_ v1 x12.1 v3 v4 v5 v6 v7 (w64 (v8 + 1)) x12.2)))
  else
    (kt0 v1 v2 v3 v4 (w64 (v5 + 1)) H)
noncomputable def r9_l2 (app : App) : Nat → Nat → Int → Int → Int → Int → Int → Int → Int → Int → Int → Int → Int → Int → Int → Hp → Option (Bool × Hp)
  | 0, _, _, _, _, _, _, _, _, _, _, _, _, _, _, _ => none
  | k_ + 1, v1, v2, v3, v4, v5, v6, v7, v8, v9, v10, v11, v12, v13, v14, H => if v14 < 3 then
    (ck ((0 : Int) ≤ v14 ∧ v14 < ((3 : Nat) : Int)) (
    (apart true 4 [.int .i64 v2, .int .i64 v3, .int .i64 v4, .int .i64 v5, .int .i64 v6, .int .i64 v7, .int .i64 v8, .int .i64 v9, .int .i64 v10, .int .i64 v11, .int .i64 v12, .int .i64 v13] ((v14 : Int).toNat * 4)).bind fun x3 =>
    (x3.asA).bind fun x4 =>
    ck (x4.length = 4) (
    (x4[0]?).bind fun x6 =>
    (x6.asI .i64).bind fun x7 =>
    (x4[1]?).bind fun x8 =>
    (x8.asI .i64).bind fun x9 =>
    (x4[2]?).bind fun x10 =>
    (x10.asI .i64).bind fun x11 =>
    (x4[3]?).bind fun x12 =>
    (x12.asI .i64).bind fun x13 =>
    ((H.push (.cells [.int .i64 0, .int .i64 0, .int .i64 0, .int .i64 0] false)).sts H.n 0 [.int .i64 x7, .int .i64 x9, .int .i64 x11, .int .i64 x13]).bind fun H14 =>
    (H14.ldI .i64 H.n (0 + 0)).bind fun x15 =>
    (H14.ldI .i64 H.n ((0 + 0) + 1)).bind fun x16 =>
    (H14.ldI .i64 H.n (0 + 2)).bind fun x17 =>
    (H14.ldI .i64 H.n ((0 + 2) + 1)).bind fun x18 =>
    if ((x15 == x17) && (x16 == x18)) = true then
      (r9_l2 app k_ v1 v2 v3 v4 v5 v6 v7 v8 v9 v10 v11 v12 v13 (w64 (v14 + 1)) H14)
    else
      (some (false, H14)))))
  else
    ((H.ldI .i64 v1 (0 + (0 : Int).toNat * 4)).bind fun x20 =>
    (H.ldI .i64 v1 ((0 + (0 : Int).toNat * 4) + 1)).bind fun x21 =>
    (H.ldI .i64 v1 ((0 + (0 : Int).toNat * 4) + 2)).bind fun x22 =>
    (H.ldI .i64 v1 ((0 + (0 : Int).toNat * 4) + 3)).bind fun x23 =>
    (H.ldI .i64 v1 (0 + (2 : Int).toNat * 4)).bind fun x24 =>
    (H.ldI .i64 v1 ((0 + (2 : Int).toNat * 4) + 1)).bind fun x25 =>
    (H.ldI .i64 v1 ((0 + (2 : Int).toNat * 4) + 2)).bind fun x26 =>
    (H.ldI .i64 v1 ((0 + (2 : Int).toNat * 4) + 3)).bind fun x27 =>
    if (((x20 == x24) && (x21 == x25)) && ((x22 == x26) && (x23 == x27))) = true then
      ((H.ldI .i64 v1 (0 + (1 : Int).toNat * 4)).bind fun x29 =>
      (H.ldI .i64 v1 ((0 + (1 : Int).toNat * 4) + 1)).bind fun x30 =>
      (H.ldI .i64 v1 ((0 + (1 : Int).toNat * 4) + 2)).bind fun x31 =>
      (H.ldI .i64 v1 ((0 + (1 : Int).toNat * 4) + 3)).bind fun x32 =>
      (H.ldI .i64 v1 (0 + (2 : Int).toNat * 4)).bind fun x33 =>
      (H.ldI .i64 v1 ((0 + (2 : Int).toNat * 4) + 1)).bind fun x34 =>
      (H.ldI .i64 v1 ((0 + (2 : Int).toNat * 4) + 2)).bind fun x35 =>
      (H.ldI .i64 v1 ((0 + (2 : Int).toNat * 4) + 3)).bind fun x36 =>
      if (((x29 == x33) && (x30 == x34)) && ((x31 == x35) && (x32 == x36))) = true then
        ((app 19 [] H).bind fun p38 =>
        (p38.1.asB).bind fun x39 =>
        some (x39, p38.2))
      else
        (some (false, H)))
    else
      (some (false, H)))
noncomputable def r9_j3 (app : App) (v1 : Nat) (v2 : Bool) (v3 : Bool) (H : Hp) : Option (Bool × Hp) :=
  if v3 = true then
    (if v2 = true then
      ((app 19 [] H).bind fun p3 =>
      (p3.1.asB).bind fun x4 =>
      some (x4, p3.2))
    else
      (some (false, H)))
  else
    ((H.ldI .i64 v1 0).bind fun x5 =>
    (H.ldI .i64 v1 (0 + 1)).bind fun x6 =>
    (H.ldI .i64 v1 (0 + 2)).bind fun x7 =>
    (H.ldI .i64 v1 (0 + 3)).bind fun x8 =>
    (H.ldI .i64 v1 (0 + 4)).bind fun x9 =>
    (H.ldI .i64 v1 (0 + 5)).bind fun x10 =>
    (H.ldI .i64 v1 (0 + 6)).bind fun x11 =>
    (H.ldI .i64 v1 (0 + 7)).bind fun x12 =>
    (H.ldI .i64 v1 (0 + 8)).bind fun x13 =>
    (H.ldI .i64 v1 (0 + 9)).bind fun x14 =>
    (H.ldI .i64 v1 (0 + 10)).bind fun x15 =>
    (H.ldI .i64 v1 (0 + 11)).bind fun x16 =>
    r9_l2 app FUEL v1 x5 x6 x7 x8 x9 x10 x11 x12 x13 x14 x15 x16 0 H)
noncomputable def r9_l0 (app : App) : Nat → Int → Sl → Sl → Int → Int → Hp → Option (Bool × Hp)
  | 0, _, _, _, _, _, _ => none
  | k_ + 1, v1, v2, v3, v4, v5, H => if v5 < v4 then
    (ck ((0 : Int) ≤ v5 ∧ v5 < (v3.len : Int)) (
    (H.ldI .i64 v3.b (v3.o + (v5 : Int).toNat * 2)).bind fun x3 =>
    (H.ldI .i64 v3.b ((v3.o + (v5 : Int).toNat * 2) + 1)).bind fun x4 =>
    ((H.push (.cells [.int .i64 0, .int .i64 0] false)).sts H.n 0 [.int .i64 x3, .int .i64 x4]).bind fun H5 =>
    (H5.ldI .i64 H.n 0).bind fun x6 =>
    (H5.ldI .i64 H.n (0 + 1)).bind fun x7 =>
    (H5.ldI .i64 H.n (0 + (1 : Int).toNat * 1)).bind fun x8 =>
    (H5.ldI .i64 H.n (0 + (0 : Int).toNat * 1)).bind fun x9 =>
    lt (H5.push (.cells [.int .i64 x6, .int .i64 x7, .int .i64 x8, .int .i64 x9] false)) fun H10 =>
    r9_l1 app (fun v1_ v2_ v3_ v4_ v5_ H_ => r9_l0 app k_ v1_ v2_ v3_ v4_ v5_ H_) FUEL v1 v2 v3 v4 v5 ⟨false, H5.n, 0, 2, 2, 0⟩ ((⟨false, H5.n, 0, 2, 2, 0⟩ : Sl).len : Int) 0 H10))
  else
    (if 8 < (v2.len : Int) then
      ((app 19 [] H).bind fun p12 =>
      (p12.1.asB).bind fun x13 =>
      some (x13, p12.2))
    else
      ((r39 app v2 v1 v1 H).bind fun p14 =>
      ((p14.2.push (.cells [.int .i64 0, .int .i64 0, .int .i64 0, .int .i64 0, .int .i64 0, .int .i64 0, .int .i64 0, .int .i64 0, .int .i64 0, .int .i64 0, .int .i64 0, .int .i64 0] false)).sts p14.2.n 0 [.int .i64 p14.1.1, .int .i64 p14.1.2.1, .int .i64 p14.1.2.2.1, .int .i64 p14.1.2.2.2.1, .int .i64 p14.1.2.2.2.2.1, .int .i64 p14.1.2.2.2.2.2.1, .int .i64 p14.1.2.2.2.2.2.2.1, .int .i64 p14.1.2.2.2.2.2.2.2.1, .int .i64 p14.1.2.2.2.2.2.2.2.2.1, .int .i64 p14.1.2.2.2.2.2.2.2.2.2.1, .int .i64 p14.1.2.2.2.2.2.2.2.2.2.2.1, .int .i64 p14.1.2.2.2.2.2.2.2.2.2.2.2.1]).bind fun H15 =>
      if p14.1.2.2.2.2.2.2.2.2.2.2.2.2.2 = true then
        (r9_j3 app p14.2.n true (!p14.1.2.2.2.2.2.2.2.2.2.2.2.2.1) H15)
      else
        (r9_j3 app p14.2.n false true H15)))
noncomputable def r9 (app : App) (a0 : Sl) (a1 : Int) (H : Hp) : Option (Bool × Hp) :=
  (r26 a0 H).bind fun p1 =>
  if p1.1 = true then
    (r9_l0 app FUEL a1 ⟨true, 0, 0, 0, 0, 0⟩ a0 (a0.len : Int) 0 p1.2)
  else
    ((app 19 [] p1.2).bind fun p3 =>
    (p3.1.asB).bind fun x4 =>
    some (x4, p3.2))
/- 67 congou/deals.gain -/
def ret67 : Int × Int → AV := fun r => .agg [.int .i64 r.1, .int .i64 r.2]
noncomputable def r67_j0 (v1 : Nat) (v2 : Nat) (v3 : Nat) (v4 : Bool) (H : Hp) : Option ((Int × Int) × Hp) :=
  if v4 = true then
    ((r48 (-1) 1 H0).bind fun p2 =>
    (H.sts v1 0 [.int .i64 p2.1.1, .int .i64 p2.1.2]).bind fun H3 =>
    (H3.ldI .i64 v1 0).bind fun x4 =>
    (H3.ldI .i64 v1 (0 + 1)).bind fun x5 =>
    some ((x4, x5), H3))
  else
    ((H.ldI .i64 v2 (0 + 0)).bind fun x6 =>
    (H.ldI .i64 v3 (0 + 0)).bind fun x7 =>
    (H.ldI .i64 v2 (0 + 1)).bind fun x8 =>
    (H.ldI .i64 v3 (0 + 1)).bind fun x9 =>
    (r48 (w64 (x6 * x7)) (w64 (x8 * x9)) H0).bind fun p10 =>
    (H.sts v1 0 [.int .i64 p10.1.1, .int .i64 p10.1.2]).bind fun H11 =>
    (H11.ldI .i64 v1 0).bind fun x12 =>
    (H11.ldI .i64 v1 (0 + 1)).bind fun x13 =>
    some ((x12, x13), H11))
noncomputable def r67 (a0_0 : Int) (a0_1 : Int) (a0_2 : Int) (a0_3 : Int) (a1_0 : Int) (a1_1 : Int) (H : Hp) : Option ((Int × Int) × Hp) :=
  lt (((H.push (.cells [.int .i64 a0_0, .int .i64 a0_1, .int .i64 a0_2, .int .i64 a0_3] false)).push (.cells [.int .i64 a1_0, .int .i64 a1_1] false)).push (.cells [.int .i64 0, .int .i64 0] false)) fun H1 =>
  (H1.ldI .i64 H.n ((0 + 0) + 0)).bind fun x2 =>
  (H1.ldI .i64 ((H.push (.cells [.int .i64 a0_0, .int .i64 a0_1, .int .i64 a0_2, .int .i64 a0_3] false)).n) (0 + (0 : Int).toNat * 1)).bind fun x3 =>
  (H1.ldI .i64 H.n ((0 + 0) + 1)).bind fun x4 =>
  (H1.ldI .i64 H.n ((0 + 0) + 1)).bind fun x5 =>
  (r48 (w64 (x2 - (w64 (x3 * x4)))) x5 H0).bind fun p6 =>
  (H1.ldI .i64 H.n ((0 + 2) + 0)).bind fun x7 =>
  (H1.ldI .i64 ((H.push (.cells [.int .i64 a0_0, .int .i64 a0_1, .int .i64 a0_2, .int .i64 a0_3] false)).n) (0 + (1 : Int).toNat * 1)).bind fun x8 =>
  (H1.ldI .i64 H.n ((0 + 2) + 1)).bind fun x9 =>
  (H1.ldI .i64 H.n ((0 + 2) + 1)).bind fun x10 =>
  (r48 (w64 (x7 - (w64 (x8 * x9)))) x10 H0).bind fun p11 =>
  (((H1.push (.cells [.int .i64 0, .int .i64 0] false)).push (.cells [.int .i64 0, .int .i64 0] false)).sts H1.n 0 [.int .i64 p6.1.1, .int .i64 p6.1.2]).bind fun H12 =>
  (H12.sts ((H1.push (.cells [.int .i64 0, .int .i64 0] false)).n) 0 [.int .i64 p11.1.1, .int .i64 p11.1.2]).bind fun H13 =>
  (H13.ldI .i64 H1.n (0 + 0)).bind fun x14 =>
  if x14 < 0 then
    (r67_j0 (((H.push (.cells [.int .i64 a0_0, .int .i64 a0_1, .int .i64 a0_2, .int .i64 a0_3] false)).push (.cells [.int .i64 a1_0, .int .i64 a1_1] false)).n) H1.n ((H1.push (.cells [.int .i64 0, .int .i64 0] false)).n) true H13)
  else
    ((H13.ldI .i64 ((H1.push (.cells [.int .i64 0, .int .i64 0] false)).n) (0 + 0)).bind fun x16 =>
    r67_j0 (((H.push (.cells [.int .i64 a0_0, .int .i64 a0_1, .int .i64 a0_2, .int .i64 a0_3] false)).push (.cells [.int .i64 a1_0, .int .i64 a1_1] false)).n) H1.n ((H1.push (.cells [.int .i64 0, .int .i64 0] false)).n) (decide (x16 < 0)) H13)
/- 66 congou/deals.Product$1 -/
def ret66 : Unit → AV := fun _ => .tup []
noncomputable def r66 (a0_0 : Int) (a0_1 : Int) (a0_2 : Int) (a0_3 : Int) (c0 : Nat) (c1 : Nat) (c2 : Nat) (H : Hp) : Option (Unit × Hp) :=
  lt (H.push (.cells [.int .i64 a0_0, .int .i64 a0_1, .int .i64 a0_2, .int .i64 a0_3] false)) fun H1 =>
  (H1.ldI .i64 H.n 0).bind fun x2 =>
  (H1.ldI .i64 H.n (0 + 1)).bind fun x3 =>
  (H1.ldI .i64 H.n (0 + 2)).bind fun x4 =>
  (H1.ldI .i64 H.n (0 + 3)).bind fun x5 =>
  (H1.ldI .i64 c0 0).bind fun x6 =>
  (H1.ldI .i64 c0 (0 + 1)).bind fun x7 =>
  (r67 x2 x3 x4 x5 x6 x7 H0).bind fun p8 =>
  ((H1.push (.cells [.int .i64 0, .int .i64 0] false)).sts H1.n 0 [.int .i64 p8.1.1, .int .i64 p8.1.2]).bind fun H9 =>
  (H9.ldI .i64 H1.n 0).bind fun x10 =>
  (H9.ldI .i64 H1.n (0 + 1)).bind fun x11 =>
  (H9.ldI .i64 c1 0).bind fun x12 =>
  (H9.ldI .i64 c1 (0 + 1)).bind fun x13 =>
  (r68 x10 x11 x12 x13 H0).bind fun p14 =>
  if 0 < p14.1 then
    ((H9.ldI .i64 H.n 0).bind fun x16 =>
    (H9.ldI .i64 H.n (0 + 1)).bind fun x17 =>
    (H9.ldI .i64 H.n (0 + 2)).bind fun x18 =>
    (H9.ldI .i64 H.n (0 + 3)).bind fun x19 =>
    (H9.ldI .i64 H1.n 0).bind fun x20 =>
    (H9.ldI .i64 H1.n (0 + 1)).bind fun x21 =>
    (H9.sts c2 0 [.int .i64 x16, .int .i64 x17, .int .i64 x18, .int .i64 x19]).bind fun H22 =>
    (H22.sts c1 0 [.int .i64 x20, .int .i64 x21]).bind fun H23 =>
    ck (H22.ldI .i64 H1.n 0 = some x20) (
    ck (H22.ldI .i64 H1.n (0 + 1) = some x21) (
    some ((), H23))))
  else
    (some ((), H9))
/- 84 slices.Values[congou/deals.offers,[2]int]$1 -/
def ret84 : Unit → AV := fun _ => .tup []
noncomputable def r84_l0 (app : App) : Nat → AV → Sl → Int → Int → Hp → Option (Unit × Hp)
  | 0, _, _, _, _, _ => none
  | k_ + 1, v1, v2, v3, v4, H => if v4 < v3 then
    (ck ((0 : Int) ≤ v4 ∧ v4 < (v2.len : Int)) (
    (H.ldI .i64 v2.b (v2.o + (v4 : Int).toNat * 2)).bind fun x3 =>
    (H.ldI .i64 v2.b ((v2.o + (v4 : Int).toNat * 2) + 1)).bind fun x4 =>
    ((H.push (.cells [.int .i64 0, .int .i64 0] false)).sts H.n 0 [.int .i64 x3, .int .i64 x4]).bind fun H5 =>
    (H5.ldI .i64 H.n 0).bind fun x6 =>
    (H5.ldI .i64 H.n (0 + 1)).bind fun x7 =>
    (callv app v1 [.agg [.int .i64 x6, .int .i64 x7]] H5).bind fun p8 =>
    (p8.1.asB).bind fun x9 =>
    if x9 = true then
      (r84_l0 app k_ v1 v2 v3 (w64 (v4 + 1)) p8.2)
    else
      (some ((), p8.2))))
  else
    (some ((), H))
noncomputable def r84 (app : App) (a0 : AV) (c0 : Nat) (H : Hp) : Option (Unit × Hp) :=
  (H.ldSl c0 0).bind fun x1 =>
  r84_l0 app FUEL a0 x1 (x1.len : Int) 0 H
end Go.Lt.P5
