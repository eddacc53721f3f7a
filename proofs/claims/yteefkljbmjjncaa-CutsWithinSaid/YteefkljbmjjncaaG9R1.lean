/- PRINTED BY A PROGRAM OF OURS: what each function that 'CutsWithin' reaches computes on the abstract heap, and that the translated code does just that. Nothing is asked of the input. -/
import Derived.Test.YteefkljbmjjncaaG9R0
set_option linter.unusedVariables false
set_option linter.unusedSimpArgs false
set_option maxRecDepth 100000
set_option maxHeartbeats 4000000
namespace Go.Lt.P2
open Go Go.Lt Go.Proofs
/- 66 (congou/cuts.plate).corners -/
def ret66 : Unit → AV := fun _ => .tup []
noncomputable def r66_j2 (app : App) (kt1 : Sl → AV → Nat → Sl → Int → Int → Sl → Int → Int → Hp → Option (Unit × Hp)) (v1 : Sl) (v2 : AV) (v3 : Nat) (v4 : Sl) (v5 : Int) (v6 : Int) (v7 : Sl) (v8 : Int) (v9 : Int) (v10 : Bool) (H : Hp) : Option (Unit × Hp) :=
  if v10 = true then
    (some ((), H))
  else
    (kt1 v1 v2 v3 v4 v5 v6 v7 v8 (w64 (v9 + 1)) H)
noncomputable def r66_l1 (app : App) (kt0 : Sl → AV → Sl → Int → Int → Hp → Option (Unit × Hp)) : Nat → Sl → AV → Nat → Sl → Int → Int → Sl → Int → Int → Hp → Option (Unit × Hp)
  | 0, _, _, _, _, _, _, _, _, _, _ => none
  | k_ + 1, v1, v2, v3, v4, v5, v6, v7, v8, v9, H => if v9 < v8 then
    (ck ((0 : Int) ≤ v9 ∧ v9 < (v7.len : Int)) (
    (H.ldI .i64 v7.b (v7.o + (v9 : Int).toNat * 3)).bind fun x3 =>
    (H.ldI .i64 v7.b ((v7.o + (v9 : Int).toNat * 3) + 1)).bind fun x4 =>
    (H.ldI .i64 v7.b ((v7.o + (v9 : Int).toNat * 3) + 2)).bind fun x5 =>
    ((H.push (.cells [.int .i64 0, .int .i64 0, .int .i64 0] false)).sts H.n 0 [.int .i64 x3, .int .i64 x4, .int .i64 x5]).bind fun H6 =>
    (H6.ldI .i64 v3 0).bind fun x7 =>
    (H6.ldI .i64 v3 (0 + 1)).bind fun x8 =>
    (H6.ldI .i64 v3 (0 + 2)).bind fun x9 =>
    (H6.ldI .i64 H.n 0).bind fun x10 =>
    (H6.ldI .i64 H.n (0 + 1)).bind fun x11 =>
    (H6.ldI .i64 H.n (0 + 2)).bind fun x12 =>
    (r96 x7 x8 x9 x10 x11 x12 H0).bind fun p13 =>
    ((H6.push (.cells [.int .i64 0, .int .i64 0, .int .i64 0, .int .i64 0] false)).sts H6.n 0 [.int .i64 p13.1.1, .int .i64 p13.1.2.1, .int .i64 p13.1.2.2.1, .int .i64 p13.1.2.2.2.1]).bind fun H14 =>
    if p13.1.2.2.2.2 = true then
      ((H14.ldI .i64 H6.n 0).bind fun x16 =>
      (H14.ldI .i64 H6.n (0 + 1)).bind fun x17 =>
      (H14.ldI .i64 H6.n (0 + 2)).bind fun x18 =>
      (H14.ldI .i64 H6.n (0 + 3)).bind fun x19 =>
      (r65 app v1 x16 x17 x18 x19 H14).bind fun p20 =>
      if p20.1 = true then
        ((p20.2.ldI .i64 H6.n 0).bind fun x22 =>
        (p20.2.ldI .i64 H6.n (0 + 1)).bind fun x23 =>
        (p20.2.ldI .i64 H6.n (0 + 2)).bind fun x24 =>
        (p20.2.ldI .i64 H6.n (0 + 3)).bind fun x25 =>
        (p20.2.ldI .i64 v3 0).bind fun x26 =>
        (p20.2.ldI .i64 v3 (0 + 1)).bind fun x27 =>
        (p20.2.ldI .i64 v3 (0 + 2)).bind fun x28 =>
        (p20.2.ldI .i64 H.n 0).bind fun x29 =>
        (p20.2.ldI .i64 H.n (0 + 1)).bind fun x30 =>
        (p20.2.ldI .i64 H.n (0 + 2)).bind fun x31 =>
        (callv app v2 [.agg [.int .i64 x22, .int .i64 x23, .int .i64 x24, .int .i64 x25, .int .i64 x26, .int .i64 x27, .int .i64 x28, .int .i64 x29, .int .i64 x30, .int .i64 x31]] p20.2).bind fun p32 =>
        (p32.1.asB).bind fun x33 =>
        r66_j2 app (fun v1_ v2_ v3_ v4_ v5_ v6_ v7_ v8_ v9_ H_ => r66_l1 app kt0 k_ v1_ v2_ v3_ v4_ v5_ v6_ v7_ v8_ v9_ H_) v1 v2 v3 v4 v5 v6 v7 v8 v9 (!x33) p32.2)
      else
        (r66_j2 app (fun v1_ v2_ v3_ v4_ v5_ v6_ v7_ v8_ v9_ H_ => r66_l1 app kt0 k_ v1_ v2_ v3_ v4_ v5_ v6_ v7_ v8_ v9_ H_) v1 v2 v3 v4 v5 v6 v7 v8 v9 false p20.2))
    else
      (r66_j2 app (fun v1_ v2_ v3_ v4_ v5_ v6_ v7_ v8_ v9_ H_ => r66_l1 app kt0 k_ v1_ v2_ v3_ v4_ v5_ v6_ v7_ v8_ v9_ H_) v1 v2 v3 v4 v5 v6 v7 v8 v9 false H14)))
  else
    (kt0 v1 v2 v4 v5 (w64 (v6 + 1)) H)
noncomputable def r66_l0 (app : App) : Nat → Sl → AV → Sl → Int → Int → Hp → Option (Unit × Hp)
  | 0, _, _, _, _, _, _ => none
  | k_ + 1, v1, v2, v3, v4, v5, H => if v5 < v4 then
    (ck ((0 : Int) ≤ v5 ∧ v5 < (v3.len : Int)) (
    (H.ldI .i64 v3.b (v3.o + (v5 : Int).toNat * 3)).bind fun x3 =>
    (H.ldI .i64 v3.b ((v3.o + (v5 : Int).toNat * 3) + 1)).bind fun x4 =>
    (H.ldI .i64 v3.b ((v3.o + (v5 : Int).toNat * 3) + 2)).bind fun x5 =>
    ((H.push (.cells [.int .i64 0, .int .i64 0, .int .i64 0] false)).sts H.n 0 [.int .i64 x3, .int .i64 x4, .int .i64 x5]).bind fun H6 =>
    ck (((0 : Int) ≤ 0 ∧ 0 ≤ v5 ∧ v5 ≤ (v1.cap : Int)) ∧ (v1.opn = 0 ∨ v1.opn = 3)) (
    r66_l1 app (fun v1_ v2_ v3_ v4_ v5_ H_ => r66_l0 app k_ v1_ v2_ v3_ v4_ v5_ H_) FUEL v1 v2 H.n v3 v4 v5 (v1.cut 3 (0 : Int).toNat (v5 : Int).toNat) ((v1.cut 3 (0 : Int).toNat (v5 : Int).toNat).len : Int) 0 H6)))
  else
    (some ((), H))
noncomputable def r66 (app : App) (a0 : Sl) (a1 : AV) (H : Hp) : Option (Unit × Hp) :=
  r66_l0 app FUEL a0 a1 a0 (a0.len : Int) 0 H
/- 98 congou/cuts.plus -/
def ret98 : Int × Int → AV := fun r => .agg [.int .i64 r.1, .int .i64 r.2]
noncomputable def r98 (a0_0 : Int) (a0_1 : Int) (a1_0 : Int) (a1_1 : Int) (H : Hp) : Option ((Int × Int) × Hp) :=
  lt (((H.push (.cells [.int .i64 a0_0, .int .i64 a0_1] false)).push (.cells [.int .i64 a1_0, .int .i64 a1_1] false)).push (.cells [.int .i64 0, .int .i64 0] false)) fun H1 =>
  (H1.ldI .i64 H.n (0 + 0)).bind fun x2 =>
  (H1.ldI .i64 ((H.push (.cells [.int .i64 a0_0, .int .i64 a0_1] false)).n) (0 + 1)).bind fun x3 =>
  (H1.ldI .i64 ((H.push (.cells [.int .i64 a0_0, .int .i64 a0_1] false)).n) (0 + 0)).bind fun x4 =>
  (H1.ldI .i64 H.n (0 + 1)).bind fun x5 =>
  (H1.ldI .i64 H.n (0 + 1)).bind fun x6 =>
  (H1.ldI .i64 ((H.push (.cells [.int .i64 a0_0, .int .i64 a0_1] false)).n) (0 + 1)).bind fun x7 =>
  (r100 (w64 ((w64 (x2 * x3)) + (w64 (x4 * x5)))) (w64 (x6 * x7)) H0).bind fun p8 =>
  (H1.sts (((H.push (.cells [.int .i64 a0_0, .int .i64 a0_1] false)).push (.cells [.int .i64 a1_0, .int .i64 a1_1] false)).n) 0 [.int .i64 p8.1.1, .int .i64 p8.1.2]).bind fun H9 =>
  (H9.ldI .i64 (((H.push (.cells [.int .i64 a0_0, .int .i64 a0_1] false)).push (.cells [.int .i64 a1_0, .int .i64 a1_1] false)).n) 0).bind fun x10 =>
  (H9.ldI .i64 (((H.push (.cells [.int .i64 a0_0, .int .i64 a0_1] false)).push (.cells [.int .i64 a1_0, .int .i64 a1_1] false)).n) (0 + 1)).bind fun x11 =>
  some ((x10, x11), H9)
/- 99 congou/cuts.times -/
def ret99 : Int × Int → AV := fun r => .agg [.int .i64 r.1, .int .i64 r.2]
noncomputable def r99 (a0 : Int) (a1_0 : Int) (a1_1 : Int) (H : Hp) : Option ((Int × Int) × Hp) :=
  lt ((H.push (.cells [.int .i64 a1_0, .int .i64 a1_1] false)).push (.cells [.int .i64 0, .int .i64 0] false)) fun H1 =>
  (H1.ldI .i64 H.n (0 + 0)).bind fun x2 =>
  (H1.ldI .i64 H.n (0 + 1)).bind fun x3 =>
  (r100 (w64 (a0 * x2)) x3 H0).bind fun p4 =>
  (H1.sts ((H.push (.cells [.int .i64 a1_0, .int .i64 a1_1] false)).n) 0 [.int .i64 p4.1.1, .int .i64 p4.1.2]).bind fun H5 =>
  (H5.ldI .i64 ((H.push (.cells [.int .i64 a1_0, .int .i64 a1_1] false)).n) 0).bind fun x6 =>
  (H5.ldI .i64 ((H.push (.cells [.int .i64 a1_0, .int .i64 a1_1] false)).n) (0 + 1)).bind fun x7 =>
  some ((x6, x7), H5)
/- 69 (congou/cuts.Side).at -/
def ret69 : Int × Int → AV := fun r => .agg [.int .i64 r.1, .int .i64 r.2]
noncomputable def r69 (a0_0 : Int) (a0_1 : Int) (a0_2 : Int) (a1_0 : Int) (a1_1 : Int) (a1_2 : Int) (a1_3 : Int) (H : Hp) : Option ((Int × Int) × Hp) :=
  lt (((H.push (.cells [.int .i64 a0_0, .int .i64 a0_1, .int .i64 a0_2] false)).push (.cells [.int .i64 a1_0, .int .i64 a1_1, .int .i64 a1_2, .int .i64 a1_3] false)).push (.cells [.int .i64 0, .int .i64 0] false)) fun H1 =>
  (H1.ldI .i64 H.n (0 + 0)).bind fun x2 =>
  (H1.ldI .i64 ((H.push (.cells [.int .i64 a0_0, .int .i64 a0_1, .int .i64 a0_2] false)).n) (0 + 0)).bind fun x3 =>
  (H1.ldI .i64 ((H.push (.cells [.int .i64 a0_0, .int .i64 a0_1, .int .i64 a0_2] false)).n) ((0 + 0) + 1)).bind fun x4 =>
  (r99 x2 x3 x4 H0).bind fun p5 =>
  (H1.ldI .i64 H.n (0 + 1)).bind fun x6 =>
  (H1.ldI .i64 ((H.push (.cells [.int .i64 a0_0, .int .i64 a0_1, .int .i64 a0_2] false)).n) (0 + 2)).bind fun x7 =>
  (H1.ldI .i64 ((H.push (.cells [.int .i64 a0_0, .int .i64 a0_1, .int .i64 a0_2] false)).n) ((0 + 2) + 1)).bind fun x8 =>
  (r99 x6 x7 x8 H0).bind fun p9 =>
  (r98 p5.1.1 p5.1.2 p9.1.1 p9.1.2 H0).bind fun p10 =>
  (H1.sts (((H.push (.cells [.int .i64 a0_0, .int .i64 a0_1, .int .i64 a0_2] false)).push (.cells [.int .i64 a1_0, .int .i64 a1_1, .int .i64 a1_2, .int .i64 a1_3] false)).n) 0 [.int .i64 p10.1.1, .int .i64 p10.1.2]).bind fun H11 =>
  (H11.ldI .i64 (((H.push (.cells [.int .i64 a0_0, .int .i64 a0_1, .int .i64 a0_2] false)).push (.cells [.int .i64 a1_0, .int .i64 a1_1, .int .i64 a1_2, .int .i64 a1_3] false)).n) 0).bind fun x12 =>
  (H11.ldI .i64 (((H.push (.cells [.int .i64 a0_0, .int .i64 a0_1, .int .i64 a0_2] false)).push (.cells [.int .i64 a1_0, .int .i64 a1_1, .int .i64 a1_2, .int .i64 a1_3] false)).n) (0 + 1)).bind fun x13 =>
  some ((x12, x13), H11)
/- 89 congou/cuts.compare -/
def ret89 : Int → AV := fun r => .int .i64 r
noncomputable def r89 (a0_0 : Int) (a0_1 : Int) (a1_0 : Int) (a1_1 : Int) (H : Hp) : Option (Int × Hp) :=
  lt ((H.push (.cells [.int .i64 a0_0, .int .i64 a0_1] false)).push (.cells [.int .i64 a1_0, .int .i64 a1_1] false)) fun H1 =>
  (H1.ldI .i64 H.n (0 + 0)).bind fun x2 =>
  (H1.ldI .i64 ((H.push (.cells [.int .i64 a0_0, .int .i64 a0_1] false)).n) (0 + 1)).bind fun x3 =>
  (H1.ldI .i64 ((H.push (.cells [.int .i64 a0_0, .int .i64 a0_1] false)).n) (0 + 0)).bind fun x4 =>
  (H1.ldI .i64 H.n (0 + 1)).bind fun x5 =>
  (r84 (w64 (x2 * x3)) (w64 (x4 * x5)) H0).bind fun p6 =>
  some (p6.1, H1)
/- 70 (congou/cuts.Side).keeps -/
def ret70 : Bool → AV := fun r => .bool r
noncomputable def r70 (a0_0 : Int) (a0_1 : Int) (a0_2 : Int) (a1_0 : Int) (a1_1 : Int) (a1_2 : Int) (a1_3 : Int) (H : Hp) : Option (Bool × Hp) :=
  lt ((H.push (.cells [.int .i64 a0_0, .int .i64 a0_1, .int .i64 a0_2] false)).push (.cells [.int .i64 a1_0, .int .i64 a1_1, .int .i64 a1_2, .int .i64 a1_3] false)) fun H1 =>
  (H1.ldI .i64 H.n 0).bind fun x2 =>
  (H1.ldI .i64 H.n (0 + 1)).bind fun x3 =>
  (H1.ldI .i64 H.n (0 + 2)).bind fun x4 =>
  (H1.ldI .i64 ((H.push (.cells [.int .i64 a0_0, .int .i64 a0_1, .int .i64 a0_2] false)).n) 0).bind fun x5 =>
  (H1.ldI .i64 ((H.push (.cells [.int .i64 a0_0, .int .i64 a0_1, .int .i64 a0_2] false)).n) (0 + 1)).bind fun x6 =>
  (H1.ldI .i64 ((H.push (.cells [.int .i64 a0_0, .int .i64 a0_1, .int .i64 a0_2] false)).n) (0 + 2)).bind fun x7 =>
  (H1.ldI .i64 ((H.push (.cells [.int .i64 a0_0, .int .i64 a0_1, .int .i64 a0_2] false)).n) (0 + 3)).bind fun x8 =>
  (r69 x2 x3 x4 x5 x6 x7 x8 H0).bind fun p9 =>
  (H1.ldI .i64 H.n (0 + 2)).bind fun x10 =>
  (r100 x10 1 H0).bind fun p11 =>
  (r89 p9.1.1 p9.1.2 p11.1.1 p11.1.2 H0).bind fun p12 =>
  some ((decide (p12.1 ≤ 0)), H1)
/- 81 congou/cuts.Best$1 -/
def ret81 : Int → AV := fun r => .int .i64 r
noncomputable def r81 (a0_0 : Int) (a0_1 : Int) (c0 : Nat) (c1 : Nat) (H : Hp) : Option (Int × Hp) :=
  lt (H.push (.cells [.int .i64 a0_0, .int .i64 a0_1] false)) fun H1 =>
  (H1.ldI .i64 c0 0).bind fun x2 =>
  (H1.ldI .i64 H.n (0 + (0 : Int).toNat * 1)).bind fun x3 =>
  (H1.ldI .i64 c1 0).bind fun x4 =>
  (H1.ldI .i64 H.n (0 + (1 : Int).toNat * 1)).bind fun x5 =>
  some (w64 ((w64 (x2 * x3)) + (w64 (x4 * x5))), H1)
/- 83 congou/cuts.Best$2 -/
def ret83 : Int → AV := fun r => .int .i64 r
noncomputable def r83 (app : App) (a0_0 : Int) (a0_1 : Int) (a1_0 : Int) (a1_1 : Int) (c0 : Nat) (H : Hp) : Option (Int × Hp) :=
  lt ((H.push (.cells [.int .i64 a0_0, .int .i64 a0_1] false)).push (.cells [.int .i64 a1_0, .int .i64 a1_1] false)) fun H1 =>
  (H1.ldV c0 0).bind fun x2 =>
  (H1.ldI .i64 H.n 0).bind fun x3 =>
  (H1.ldI .i64 H.n (0 + 1)).bind fun x4 =>
  (callv app x2 [.agg [.int .i64 x3, .int .i64 x4]] H1).bind fun p5 =>
  (p5.1.asI .i64).bind fun x6 =>
  (p5.2.ldV c0 0).bind fun x7 =>
  (p5.2.ldI .i64 ((H.push (.cells [.int .i64 a0_0, .int .i64 a0_1] false)).n) 0).bind fun x8 =>
  (p5.2.ldI .i64 ((H.push (.cells [.int .i64 a0_0, .int .i64 a0_1] false)).n) (0 + 1)).bind fun x9 =>
  (callv app x7 [.agg [.int .i64 x8, .int .i64 x9]] p5.2).bind fun p10 =>
  (p10.1.asI .i64).bind fun x11 =>
  ck (H1.isV c0 0 x7 = true) (
  ck (H1.ldI .i64 ((H.push (.cells [.int .i64 a0_0, .int .i64 a0_1] false)).n) 0 = some x8) (
  ck (H1.ldI .i64 ((H.push (.cells [.int .i64 a0_0, .int .i64 a0_1] false)).n) (0 + 1) = some x9) (
  some (w64 (x6 - x11), p10.2))))
/- 93 (congou/cuts.plate).valid$1 -/
def ret93 : Bool → AV := fun r => .bool r
noncomputable def r93 (a0_0 : Int) (a0_1 : Int) (a0_2 : Int) (c0 : Nat) (H : Hp) : Option (Bool × Hp) :=
  lt (H.push (.cells [.int .i64 a0_0, .int .i64 a0_1, .int .i64 a0_2] false)) fun H1 =>
  (H1.ldI .i64 H.n (0 + 0)).bind fun x2 =>
  (H1.ldI .i64 c0 (0 + (0 : Int).toNat * 1)).bind fun x3 =>
  (H1.ldI .i64 H.n (0 + 1)).bind fun x4 =>
  (H1.ldI .i64 c0 (0 + (1 : Int).toNat * 1)).bind fun x5 =>
  some ((decide (0 < (w64 ((w64 (x2 * x3)) + (w64 (x4 * x5)))))), H1)
/- 95 (congou/cuts.plate).has$1 -/
def ret95 : Bool → AV := fun r => .bool r
noncomputable def r95 (a0_0 : Int) (a0_1 : Int) (a0_2 : Int) (c0 : Nat) (H : Hp) : Option (Bool × Hp) :=
  lt (H.push (.cells [.int .i64 a0_0, .int .i64 a0_1, .int .i64 a0_2] false)) fun H1 =>
  (H1.ldI .i64 H.n 0).bind fun x2 =>
  (H1.ldI .i64 H.n (0 + 1)).bind fun x3 =>
  (H1.ldI .i64 H.n (0 + 2)).bind fun x4 =>
  (H1.ldI .i64 c0 0).bind fun x5 =>
  (H1.ldI .i64 c0 (0 + 1)).bind fun x6 =>
  (H1.ldI .i64 c0 (0 + 2)).bind fun x7 =>
  (H1.ldI .i64 c0 (0 + 3)).bind fun x8 =>
  (r70 x2 x3 x4 x5 x6 x7 x8 H0).bind fun p9 =>
  some ((!p9.1), H1)
/- 106 congou/cuts.within$1 -/
def ret106 : Bool → AV := fun r => .bool r
noncomputable def r106 (a0 : Int) (c0 : Nat) (H : Hp) : Option (Bool × Hp) :=
  (H.ldI .i64 c0 0).bind fun x1 =>
  if a0 < (w64 (0 - x1)) then
    (some (true, H))
  else
    ((H.ldI .i64 c0 0).bind fun x3 =>
    some ((decide (x3 < a0)), H))
end Go.Lt.P2
