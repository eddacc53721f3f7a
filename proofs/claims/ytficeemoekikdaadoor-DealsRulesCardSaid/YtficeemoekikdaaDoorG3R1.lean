/- PRINTED BY A PROGRAM OF OURS: what each function that 'DealsRules' reaches computes on the abstract heap, and that the translated code does just that. Nothing is asked of the input. -/
import Derived.Test.YtficeemoekikdaaDoorG3R0
set_option linter.unusedVariables false
set_option linter.unusedSimpArgs false
set_option maxRecDepth 100000
set_option maxHeartbeats 4000000
namespace Go.Lt.P5
open Go Go.Lt Go.Proofs
/- 37 (congou/deals.offers).valid -/
def ret37 : Bool → AV := fun r => .bool r
noncomputable def r37_j2 (kt1 : Sl → Sl → Int → Int → Hp → Option (Bool × Hp)) (v1 : Sl) (v2 : Sl) (v3 : Int) (v4 : Int) (v5 : Bool) (H : Hp) : Option (Bool × Hp) :=
  if v5 = true then
    (some (false, H))
  else
    (kt1 v1 v2 v3 (w64 (v4 + 1)) H)
noncomputable def r37_l1 : Nat → Sl → Sl → Int → Int → Hp → Option (Bool × Hp)
  | 0, _, _, _, _, _ => none
  | k_ + 1, v1, v2, v3, v4, H => if v4 < v3 then
    (ck ((0 : Int) ≤ v4 ∧ v4 < (v2.len : Int)) (
    (H.ldI .i64 v2.b (v2.o + (v4 : Int).toNat * 2)).bind fun x3 =>
    (H.ldI .i64 v2.b ((v2.o + (v4 : Int).toNat * 2) + 1)).bind fun x4 =>
    ((H.push (.cells [.int .i64 0, .int .i64 0] false)).sts H.n 0 [.int .i64 x3, .int .i64 x4]).bind fun H5 =>
    (H5.ldI .i64 H.n (0 + (0 : Int).toNat * 1)).bind fun x6 =>
    (r38 x6 H0).bind fun p7 =>
    if p7.1 = true then
      ((H5.ldI .i64 H.n (0 + (1 : Int).toNat * 1)).bind fun x9 =>
      (r38 x9 H0).bind fun p10 =>
      if p10.1 = true then
        (ck (((0 : Int) ≤ 0 ∧ 0 ≤ v4 ∧ v4 ≤ (v1.cap : Int)) ∧ (v1.opn = 0 ∨ v1.opn = 2)) (
        (H5.ldI .i64 H.n 0).bind fun x13 =>
        (H5.ldI .i64 H.n (0 + 1)).bind fun x14 =>
        (r50 (v1.cut 2 (0 : Int).toNat (v4 : Int).toNat) x13 x14 H5).bind fun p15 =>
        r37_j2 (fun v1_ v2_ v3_ v4_ H_ => r37_l1 k_ v1_ v2_ v3_ v4_ H_) v1 v2 v3 v4 p15.1 p15.2))
      else
        (r37_j2 (fun v1_ v2_ v3_ v4_ H_ => r37_l1 k_ v1_ v2_ v3_ v4_ H_) v1 v2 v3 v4 true H5))
    else
      (r37_j2 (fun v1_ v2_ v3_ v4_ H_ => r37_l1 k_ v1_ v2_ v3_ v4_ H_) v1 v2 v3 v4 true H5)))
  else
    (some (true, H))
noncomputable def r37_j0 (v1 : Sl) (v2 : Bool) (H : Hp) : Option (Bool × Hp) :=
  if v2 = true then
    (some (false, H))
  else
    (r37_l1 FUEL v1 v1 (v1.len : Int) 0 H)
noncomputable def r37 (a0 : Sl) (H : Hp) : Option (Bool × Hp) :=
  if (a0.len : Int) < 1 then
    (r37_j0 a0 true H)
  else
    (r37_j0 a0 (decide (8 < (a0.len : Int))) H)
/- 39 (congou/deals.line).rest -/
def ret39 : Int → AV := fun r => .int .i64 r
noncomputable def r39 (a0_0 : Int) (a0_1 : Int) (a0_2 : Int) (a1_0 : Int) (a1_1 : Int) (H : Hp) : Option (Int × Hp) :=
  lt ((H.push (.cells [.int .i64 a0_0, .int .i64 a0_1, .int .i64 a0_2] false)).push (.cells [.int .i64 a1_0, .int .i64 a1_1] false)) fun H1 =>
  (H1.ldI .i64 H.n (0 + 2)).bind fun x2 =>
  (H1.ldI .i64 H.n (0 + 0)).bind fun x3 =>
  (H1.ldI .i64 ((H.push (.cells [.int .i64 a0_0, .int .i64 a0_1, .int .i64 a0_2] false)).n) (0 + (0 : Int).toNat * 1)).bind fun x4 =>
  (H1.ldI .i64 H.n (0 + 1)).bind fun x5 =>
  (H1.ldI .i64 ((H.push (.cells [.int .i64 a0_0, .int .i64 a0_1, .int .i64 a0_2] false)).n) (0 + (1 : Int).toNat * 1)).bind fun x6 =>
  some (w64 ((w64 (x2 - (w64 (x3 * x4)))) - (w64 (x5 * x6))), H1)
/- 16 congou/deals.read -/
def ret16 : Sl × Int → AV := fun r => .tup [.sl r.1, .int .i64 r.2]
noncomputable def r16_l0 (app : App) : Nat → Nat → Sl → Sl → Int → Int → Hp → Option ((Sl × Int) × Hp)
  | 0, _, _, _, _, _, _ => none
  | k_ + 1, v1, v2, v3, v4, v5, H => if v5 < v4 then
    (ck ((0 : Int) ≤ v5 ∧ v5 < (v3.len : Int)) (
    (H.ldI .i64 v3.b (v3.o + (v5 : Int).toNat * 3)).bind fun x3 =>
    (H.ldI .i64 v3.b ((v3.o + (v5 : Int).toNat * 3) + 1)).bind fun x4 =>
    (H.ldI .i64 v3.b ((v3.o + (v5 : Int).toNat * 3) + 2)).bind fun x5 =>
    ((H.push (.cells [.int .i64 0, .int .i64 0, .int .i64 0] false)).sts H.n 0 [.int .i64 x3, .int .i64 x4, .int .i64 x5]).bind fun H6 =>
    (H6.ldI .i64 H.n 0).bind fun x7 =>
    (H6.ldI .i64 H.n (0 + 1)).bind fun x8 =>
    (H6.ldI .i64 H.n (0 + 2)).bind fun x9 =>
    (H6.ldI .i64 v1 0).bind fun x10 =>
    (H6.ldI .i64 v1 (0 + 1)).bind fun x11 =>
    (r39 x7 x8 x9 x10 x11 H0).bind fun p12 =>
    if p12.1 ≤ 0 then
      (some ((⟨true, 0, 0, 0, 0, 0⟩, 4), H6))
    else
      (r16_l0 app k_ v1 v2 v3 v4 (w64 (v5 + 1)) H6)))
  else
    (some ((v2, 0), H))
noncomputable def r16_j1 (app : App) (v1 : Nat) (v2 : Sl) (v3 : Bool) (H : Hp) : Option ((Sl × Int) × Hp) :=
  if v3 = true then
    (some ((⟨true, 0, 0, 0, 0, 0⟩, 2), H))
  else
    ((r22 app v2 H).bind fun p2 =>
    r16_l0 app FUEL v1 v2 p2.1 (p2.1.len : Int) 0 p2.2)
noncomputable def r16 (app : App) (a0 : Sl) (a1_0 : Int) (a1_1 : Int) (H : Hp) : Option ((Sl × Int) × Hp) :=
  lt (H.push (.cells [.int .i64 a1_0, .int .i64 a1_1] false)) fun H1 =>
  (r37 a0 H1).bind fun p2 =>
  if p2.1 = true then
    ((p2.2.ldI .i64 H.n (0 + (0 : Int).toNat * 1)).bind fun x4 =>
    (r38 x4 H0).bind fun p5 =>
    if p5.1 = true then
      ((p2.2.ldI .i64 H.n (0 + (1 : Int).toNat * 1)).bind fun x7 =>
      (r38 x7 H0).bind fun p8 =>
      r16_j1 app H.n a0 (!p8.1) p2.2)
    else
      (r16_j1 app H.n a0 true p2.2))
  else
    (r16_j1 app H.n a0 true p2.2)
/- 45 congou/deals.gcd -/
def ret45 : Int → AV := fun r => .int .i64 r
noncomputable def r45_l0 : Nat → Int → Int → Hp → Option (Int × Hp)
  | 0, _, _, _ => none
  | k_ + 1, v1, v2, H => if v2 ≠ 0 then
    (ck (v2 ≠ 0) (
    r45_l0 k_ v2 (Int.tmod v1 v2) H))
  else
    (some ((if v1 < (w64 (0 - v1)) then (w64 (0 - v1)) else v1), H))
noncomputable def r45 (a0 : Int) (a1 : Int) (H : Hp) : Option (Int × Hp) :=
  r45_l0 FUEL a0 a1 H
/- 18 congou/deals.frac -/
def ret18 : Int × Int → AV := fun r => .agg [.int .i64 r.1, .int .i64 r.2]
noncomputable def r18_j0 (v1 : Int) (v2 : Int) (v3 : Nat) (H : Hp) : Option ((Int × Int) × Hp) :=
  (r45 v1 v2 H0).bind fun p1 =>
  ck (p1.1 ≠ 0) (
  ck (p1.1 ≠ 0) (
  (H.sts v3 0 [.int .i64 (w64 (Int.tdiv v1 p1.1)), .int .i64 (w64 (Int.tdiv v2 p1.1))]).bind fun H4 =>
  (H4.ldI .i64 v3 0).bind fun x5 =>
  (H4.ldI .i64 v3 (0 + 1)).bind fun x6 =>
  some ((x5, x6), H4)))
noncomputable def r18 (a0 : Int) (a1 : Int) (H : Hp) : Option ((Int × Int) × Hp) :=
  lt (H.push (.cells [.int .i64 0, .int .i64 0] false)) fun H1 =>
  if a1 < 0 then
    (r18_j0 (w64 (0 - a0)) (w64 (0 - a1)) H.n H1)
  else
    (r18_j0 a0 a1 H.n H1)
/- 21 congou/deals.compare -/
def ret21 : Int → AV := fun r => .int .i64 r
noncomputable def r21 (a0_0 : Int) (a0_1 : Int) (a1_0 : Int) (a1_1 : Int) (H : Hp) : Option (Int × Hp) :=
  lt ((H.push (.cells [.int .i64 a0_0, .int .i64 a0_1] false)).push (.cells [.int .i64 a1_0, .int .i64 a1_1] false)) fun H1 =>
  (H1.ldI .i64 H.n (0 + 0)).bind fun x2 =>
  (H1.ldI .i64 ((H.push (.cells [.int .i64 a0_0, .int .i64 a0_1] false)).n) (0 + 1)).bind fun x3 =>
  (H1.ldI .i64 ((H.push (.cells [.int .i64 a0_0, .int .i64 a0_1] false)).n) (0 + 0)).bind fun x4 =>
  (H1.ldI .i64 H.n (0 + 1)).bind fun x5 =>
  (r46 (w64 (x2 * x3)) (w64 (x4 * x5)) H0).bind fun p6 =>
  some (p6.1, H1)
/- 23 (congou/deals.line).middle -/
def ret23 : Int × Int × Int × Int × Bool → AV := fun r => .tup [.agg [.int .i64 r.1, .int .i64 r.2.1, .int .i64 r.2.2.1, .int .i64 r.2.2.2.1], .bool r.2.2.2.2]
noncomputable def r23 (a0_0 : Int) (a0_1 : Int) (a0_2 : Int) (a1_0 : Int) (a1_1 : Int) (a2_0 : Int) (a2_1 : Int) (a3_0 : Int) (a3_1 : Int) (H : Hp) : Option ((Int × Int × Int × Int × Bool) × Hp) :=
  lt (((((H.push (.cells [.int .i64 a0_0, .int .i64 a0_1, .int .i64 a0_2] false)).push (.cells [.int .i64 a1_0, .int .i64 a1_1] false)).push (.cells [.int .i64 a2_0, .int .i64 a2_1] false)).push (.cells [.int .i64 a3_0, .int .i64 a3_1] false)).push (.cells [.int .i64 0, .int .i64 0, .int .i64 0, .int .i64 0] false)) fun H1 =>
  (H1.ldI .i64 H.n 0).bind fun x2 =>
  (H1.ldI .i64 H.n (0 + 1)).bind fun x3 =>
  (H1.ldI .i64 H.n (0 + 2)).bind fun x4 =>
  (H1.ldI .i64 ((H.push (.cells [.int .i64 a0_0, .int .i64 a0_1, .int .i64 a0_2] false)).n) 0).bind fun x5 =>
  (H1.ldI .i64 ((H.push (.cells [.int .i64 a0_0, .int .i64 a0_1, .int .i64 a0_2] false)).n) (0 + 1)).bind fun x6 =>
  (r39 x2 x3 x4 x5 x6 H0).bind fun p7 =>
  (H1.ldI .i64 H.n (0 + 0)).bind fun x8 =>
  (H1.ldI .i64 ((H.push (.cells [.int .i64 a0_0, .int .i64 a0_1, .int .i64 a0_2] false)).n) (0 + (0 : Int).toNat * 1)).bind fun x9 =>
  (H1.ldI .i64 H.n (0 + 0)).bind fun x10 =>
  (r18 (w64 (p7.1 + (w64 ((w64 (2 * x8)) * x9)))) (w64 (2 * x10)) H0).bind fun p11 =>
  (H1.ldI .i64 H.n 0).bind fun x12 =>
  (H1.ldI .i64 H.n (0 + 1)).bind fun x13 =>
  (H1.ldI .i64 H.n (0 + 2)).bind fun x14 =>
  (H1.ldI .i64 ((H.push (.cells [.int .i64 a0_0, .int .i64 a0_1, .int .i64 a0_2] false)).n) 0).bind fun x15 =>
  (H1.ldI .i64 ((H.push (.cells [.int .i64 a0_0, .int .i64 a0_1, .int .i64 a0_2] false)).n) (0 + 1)).bind fun x16 =>
  (r39 x12 x13 x14 x15 x16 H0).bind fun p17 =>
  (H1.ldI .i64 H.n (0 + 1)).bind fun x18 =>
  (H1.ldI .i64 ((H.push (.cells [.int .i64 a0_0, .int .i64 a0_1, .int .i64 a0_2] false)).n) (0 + (1 : Int).toNat * 1)).bind fun x19 =>
  (H1.ldI .i64 H.n (0 + 1)).bind fun x20 =>
  (r18 (w64 (p17.1 + (w64 ((w64 (2 * x18)) * x19)))) (w64 (2 * x20)) H0).bind fun p21 =>
  ((H1.push (.cells [.int .i64 0, .int .i64 0, .int .i64 0, .int .i64 0] false)).sts H1.n 0 [.int .i64 p11.1.1, .int .i64 p11.1.2, .int .i64 p21.1.1, .int .i64 p21.1.2]).bind fun H22 =>
  (H22.ldI .i64 H1.n 0).bind fun x23 =>
  (H22.ldI .i64 H1.n (0 + 1)).bind fun x24 =>
  (H22.ldI .i64 H1.n (0 + 2)).bind fun x25 =>
  (H22.ldI .i64 H1.n (0 + 3)).bind fun x26 =>
  (H22.ldI .i64 H1.n (0 + 0)).bind fun x27 =>
  (H22.ldI .i64 H1.n ((0 + 0) + 1)).bind fun x28 =>
  (H22.ldI .i64 (((H.push (.cells [.int .i64 a0_0, .int .i64 a0_1, .int .i64 a0_2] false)).push (.cells [.int .i64 a1_0, .int .i64 a1_1] false)).n) (0 + (0 : Int).toNat * 1)).bind fun x29 =>
  (r18 x29 1 H0).bind fun p30 =>
  (r21 x27 x28 p30.1.1 p30.1.2 H0).bind fun p31 =>
  if 0 ≤ p31.1 then
    ((H22.ldI .i64 H1.n (0 + 0)).bind fun x33 =>
    (H22.ldI .i64 H1.n ((0 + 0) + 1)).bind fun x34 =>
    (H22.ldI .i64 ((((H.push (.cells [.int .i64 a0_0, .int .i64 a0_1, .int .i64 a0_2] false)).push (.cells [.int .i64 a1_0, .int .i64 a1_1] false)).push (.cells [.int .i64 a2_0, .int .i64 a2_1] false)).n) (0 + (0 : Int).toNat * 1)).bind fun x35 =>
    (r18 x35 1 H0).bind fun p36 =>
    (r21 x33 x34 p36.1.1 p36.1.2 H0).bind fun p37 =>
    (H22.sts (((((H.push (.cells [.int .i64 a0_0, .int .i64 a0_1, .int .i64 a0_2] false)).push (.cells [.int .i64 a1_0, .int .i64 a1_1] false)).push (.cells [.int .i64 a2_0, .int .i64 a2_1] false)).push (.cells [.int .i64 a3_0, .int .i64 a3_1] false)).n) 0 [.int .i64 x23, .int .i64 x24, .int .i64 x25, .int .i64 x26]).bind fun H38 =>
    (H38.ldI .i64 (((((H.push (.cells [.int .i64 a0_0, .int .i64 a0_1, .int .i64 a0_2] false)).push (.cells [.int .i64 a1_0, .int .i64 a1_1] false)).push (.cells [.int .i64 a2_0, .int .i64 a2_1] false)).push (.cells [.int .i64 a3_0, .int .i64 a3_1] false)).n) 0).bind fun x39 =>
    (H38.ldI .i64 (((((H.push (.cells [.int .i64 a0_0, .int .i64 a0_1, .int .i64 a0_2] false)).push (.cells [.int .i64 a1_0, .int .i64 a1_1] false)).push (.cells [.int .i64 a2_0, .int .i64 a2_1] false)).push (.cells [.int .i64 a3_0, .int .i64 a3_1] false)).n) (0 + 1)).bind fun x40 =>
    (H38.ldI .i64 (((((H.push (.cells [.int .i64 a0_0, .int .i64 a0_1, .int .i64 a0_2] false)).push (.cells [.int .i64 a1_0, .int .i64 a1_1] false)).push (.cells [.int .i64 a2_0, .int .i64 a2_1] false)).push (.cells [.int .i64 a3_0, .int .i64 a3_1] false)).n) (0 + 2)).bind fun x41 =>
    (H38.ldI .i64 (((((H.push (.cells [.int .i64 a0_0, .int .i64 a0_1, .int .i64 a0_2] false)).push (.cells [.int .i64 a1_0, .int .i64 a1_1] false)).push (.cells [.int .i64 a2_0, .int .i64 a2_1] false)).push (.cells [.int .i64 a3_0, .int .i64 a3_1] false)).n) (0 + 3)).bind fun x42 =>
    some ((x39, x40, x41, x42, (decide (p37.1 ≤ 0))), H38))
  else
    ((H22.sts (((((H.push (.cells [.int .i64 a0_0, .int .i64 a0_1, .int .i64 a0_2] false)).push (.cells [.int .i64 a1_0, .int .i64 a1_1] false)).push (.cells [.int .i64 a2_0, .int .i64 a2_1] false)).push (.cells [.int .i64 a3_0, .int .i64 a3_1] false)).n) 0 [.int .i64 x23, .int .i64 x24, .int .i64 x25, .int .i64 x26]).bind fun H43 =>
    (H43.ldI .i64 (((((H.push (.cells [.int .i64 a0_0, .int .i64 a0_1, .int .i64 a0_2] false)).push (.cells [.int .i64 a1_0, .int .i64 a1_1] false)).push (.cells [.int .i64 a2_0, .int .i64 a2_1] false)).push (.cells [.int .i64 a3_0, .int .i64 a3_1] false)).n) 0).bind fun x44 =>
    (H43.ldI .i64 (((((H.push (.cells [.int .i64 a0_0, .int .i64 a0_1, .int .i64 a0_2] false)).push (.cells [.int .i64 a1_0, .int .i64 a1_1] false)).push (.cells [.int .i64 a2_0, .int .i64 a2_1] false)).push (.cells [.int .i64 a3_0, .int .i64 a3_1] false)).n) (0 + 1)).bind fun x45 =>
    (H43.ldI .i64 (((((H.push (.cells [.int .i64 a0_0, .int .i64 a0_1, .int .i64 a0_2] false)).push (.cells [.int .i64 a1_0, .int .i64 a1_1] false)).push (.cells [.int .i64 a2_0, .int .i64 a2_1] false)).push (.cells [.int .i64 a3_0, .int .i64 a3_1] false)).n) (0 + 2)).bind fun x46 =>
    (H43.ldI .i64 (((((H.push (.cells [.int .i64 a0_0, .int .i64 a0_1, .int .i64 a0_2] false)).push (.cells [.int .i64 a1_0, .int .i64 a1_1] false)).push (.cells [.int .i64 a2_0, .int .i64 a2_1] false)).push (.cells [.int .i64 a3_0, .int .i64 a3_1] false)).n) (0 + 3)).bind fun x47 =>
    some ((x44, x45, x46, x47, false), H43))
/- 4 congou/deals.Product -/
def ret4 : Int × Int × Int × Int × Int → AV := fun r => .tup [.agg [.int .i64 r.1, .int .i64 r.2.1, .int .i64 r.2.2.1, .int .i64 r.2.2.2.1], .int .i64 r.2.2.2.2]
noncomputable def r4_l0 (app : App) : Nat → Nat → Nat → Sl → Sl → Nat → Nat → Nat → Nat → Sl → Int → Int → Hp → Option ((Int × Int × Int × Int × Int) × Hp)
  | 0, _, _, _, _, _, _, _, _, _, _, _, _ => none
  | k_ + 1, v1, v2, v3, v4, v5, v6, v7, v8, v9, v10, v11, H => if v11 < v10 then
    (ck ((0 : Int) ≤ v11 ∧ v11 < (v9.len : Int)) (
    (H.ldI .i64 v9.b (v9.o + (v11 : Int).toNat * 2)).bind fun x3 =>
    (H.ldI .i64 v9.b ((v9.o + (v11 : Int).toNat * 2) + 1)).bind fun x4 =>
    ((H.push (.cells [.int .i64 0, .int .i64 0] false)).sts H.n 0 [.int .i64 x3, .int .i64 x4]).bind fun H5 =>
    (H5.ldI .i64 H.n (0 + (0 : Int).toNat * 1)).bind fun x6 =>
    (r18 x6 1 H0).bind fun p7 =>
    (H5.ldI .i64 H.n (0 + (1 : Int).toNat * 1)).bind fun x8 =>
    (r18 x8 1 H0).bind fun p9 =>
    (callv app (.fn 19 [] [.ptr v6 0, .ptr v7 0, .ptr v8 0]) [.agg [.int .i64 p7.1.1, .int .i64 p7.1.2, .int .i64 p9.1.1, .int .i64 p9.1.2]] H5).bind fun p10 =>
    if 0 < v11 then
      ((r22 app v3 p10.2).bind fun p12 =>
      ck ((0 : Int) ≤ (w64 (v11 + 1)) ∧ (w64 (v11 + 1)) < (p12.1.len : Int)) (
      (p12.2.ldI .i64 p12.1.b (p12.1.o + (w64 (v11 + 1) : Int).toNat * 3)).bind fun x14 =>
      (p12.2.ldI .i64 p12.1.b ((p12.1.o + (w64 (v11 + 1) : Int).toNat * 3) + 1)).bind fun x15 =>
      (p12.2.ldI .i64 p12.1.b ((p12.1.o + (w64 (v11 + 1) : Int).toNat * 3) + 2)).bind fun x16 =>
      (p12.2.ldI .i64 v1 0).bind fun x17 =>
      (p12.2.ldI .i64 v1 (0 + 1)).bind fun x18 =>
      ck ((0 : Int) ≤ (w64 (v11 - 1)) ∧ (w64 (v11 - 1)) < (v4.len : Int)) (
      (p12.2.ldI .i64 v4.b (v4.o + (w64 (v11 - 1) : Int).toNat * 2)).bind fun x20 =>
      (p12.2.ldI .i64 v4.b ((v4.o + (w64 (v11 - 1) : Int).toNat * 2) + 1)).bind fun x21 =>
      (p12.2.ldI .i64 H.n 0).bind fun x22 =>
      (p12.2.ldI .i64 H.n (0 + 1)).bind fun x23 =>
      (r23 x14 x15 x16 x17 x18 x20 x21 x22 x23 H0).bind fun p24 =>
      ((p12.2.push (.cells [.int .i64 0, .int .i64 0, .int .i64 0, .int .i64 0] false)).sts p12.2.n 0 [.int .i64 p24.1.1, .int .i64 p24.1.2.1, .int .i64 p24.1.2.2.1, .int .i64 p24.1.2.2.2.1]).bind fun H25 =>
      ck (p10.2.ldI .i64 v1 0 = some x17) (
      ck (p10.2.ldI .i64 v1 (0 + 1) = some x18) (
      ck (p10.2.ldI .i64 v4.b (v4.o + (w64 (v11 - 1) : Int).toNat * 2) = some x20) (
      ck (p10.2.ldI .i64 v4.b ((v4.o + (w64 (v11 - 1) : Int).toNat * 2) + 1) = some x21) (
      ck (p10.2.ldI .i64 H.n 0 = some x22) (
      ck (p10.2.ldI .i64 H.n (0 + 1) = some x23) (
      ck ((p12.2.push (.cells [.int .i64 0, .int .i64 0, .int .i64 0, .int .i64 0] false)).ldI .i64 v1 0 = some x17) (
      ck ((p12.2.push (.cells [.int .i64 0, .int .i64 0, .int .i64 0, .int .i64 0] false)).ldI .i64 v1 (0 + 1) = some x18) (
      ck ((p12.2.push (.cells [.int .i64 0, .int .i64 0, .int .i64 0, .int .i64 0] false)).ldI .i64 v4.b (v4.o + (w64 (v11 - 1) : Int).toNat * 2) = some x20) (
      ck ((p12.2.push (.cells [.int .i64 0, .int .i64 0, .int .i64 0, .int .i64 0] false)).ldI .i64 v4.b ((v4.o + (w64 (v11 - 1) : Int).toNat * 2) + 1) = some x21) (
      ck ((p12.2.push (.cells [.int .i64 0, .int .i64 0, .int .i64 0, .int .i64 0] false)).ldI .i64 H.n 0 = some x22) (
      ck ((p12.2.push (.cells [.int .i64 0, .int .i64 0, .int .i64 0, .int .i64 0] false)).ldI .i64 H.n (0 + 1) = some x23) (
      if p24.1.2.2.2.2 = true then
        ((H25.ldI .i64 p12.2.n 0).bind fun x39 =>
        (H25.ldI .i64 p12.2.n (0 + 1)).bind fun x40 =>
        (H25.ldI .i64 p12.2.n (0 + 2)).bind fun x41 =>
        (H25.ldI .i64 p12.2.n (0 + 3)).bind fun x42 =>
        (callv app (.fn 19 [] [.ptr v6 0, .ptr v7 0, .ptr v8 0]) [.agg [.int .i64 x39, .int .i64 x40, .int .i64 x41, .int .i64 x42]] H25).bind fun p43 =>
        r4_l0 app k_ v1 v2 v3 v4 v5 v6 v7 v8 v9 v10 (w64 (v11 + 1)) p43.2)
      else
        (r4_l0 app k_ v1 v2 v3 v4 v5 v6 v7 v8 v9 v10 (w64 (v11 + 1)) H25))))))))))))))))
    else
      (r4_l0 app k_ v1 v2 v3 v4 v5 v6 v7 v8 v9 v10 (w64 (v11 + 1)) p10.2)))
  else
    ((H.ldI .i64 v5 0).bind fun x44 =>
    (H.ldI .i64 v5 (0 + 1)).bind fun x45 =>
    (H.ldI .i64 v5 (0 + 2)).bind fun x46 =>
    (H.ldI .i64 v5 (0 + 3)).bind fun x47 =>
    (H.sts v2 0 [.int .i64 x44, .int .i64 x45, .int .i64 x46, .int .i64 x47]).bind fun H48 =>
    (H48.ldI .i64 v2 0).bind fun x49 =>
    (H48.ldI .i64 v2 (0 + 1)).bind fun x50 =>
    (H48.ldI .i64 v2 (0 + 2)).bind fun x51 =>
    (H48.ldI .i64 v2 (0 + 3)).bind fun x52 =>
    some ((x49, x50, x51, x52, 0), H48))
noncomputable def r4 (app : App) (a0 : Sl) (a1_0 : Int) (a1_1 : Int) (H : Hp) : Option ((Int × Int × Int × Int × Int) × Hp) :=
  lt ((H.push (.cells [.int .i64 a1_0, .int .i64 a1_1] false)).push (.cells [.int .i64 0, .int .i64 0, .int .i64 0, .int .i64 0] false)) fun H1 =>
  (H1.ldI .i64 H.n 0).bind fun x2 =>
  (H1.ldI .i64 H.n (0 + 1)).bind fun x3 =>
  (r16 app a0 x2 x3 H1).bind fun p4 =>
  if p4.1.2 ≠ 0 then
    ((p4.2.sts ((H.push (.cells [.int .i64 a1_0, .int .i64 a1_1] false)).n) 0 [.int .i64 0, .int .i64 0, .int .i64 0, .int .i64 0]).bind fun H6 =>
    (H6.ldI .i64 ((H.push (.cells [.int .i64 a1_0, .int .i64 a1_1] false)).n) 0).bind fun x7 =>
    (H6.ldI .i64 ((H.push (.cells [.int .i64 a1_0, .int .i64 a1_1] false)).n) (0 + 1)).bind fun x8 =>
    (H6.ldI .i64 ((H.push (.cells [.int .i64 a1_0, .int .i64 a1_1] false)).n) (0 + 2)).bind fun x9 =>
    (H6.ldI .i64 ((H.push (.cells [.int .i64 a1_0, .int .i64 a1_1] false)).n) (0 + 3)).bind fun x10 =>
    some ((x7, x8, x9, x10, p4.1.2), H6))
  else
    ((r17 app p4.1.1 p4.2).bind fun p11 =>
    lt (p11.2.push (.cells [.int .i64 0, .int .i64 0, .int .i64 0, .int .i64 0] false)) fun H12 =>
    (r18 (-1) 1 H0).bind fun p13 =>
    ((H12.push (.cells [.int .i64 0, .int .i64 0] false)).sts H12.n 0 [.int .i64 p13.1.1, .int .i64 p13.1.2]).bind fun H14 =>
    r4_l0 app FUEL H.n ((H.push (.cells [.int .i64 a1_0, .int .i64 a1_1] false)).n) p4.1.1 p11.1 p11.2.n H.n H12.n p11.2.n p11.1 (p11.1.len : Int) 0 H14)
/- 24 slices.Clone[[][2]int,[2]int] -/
def ret24 : Sl → AV := fun r => .sl r
noncomputable def r24 (a0 : Sl) (H : Hp) : Option (Sl × Hp) :=
  if a0.nil = true then
    (some (⟨true, 0, 0, 0, 0, 0⟩, H))
  else
    (((H.push (.cells [] false)).lds a0.b a0.o (a0.len * 2)).bind fun x2 =>
    ck (x2.all AV.one = true) (
    ((H.push (.cells [] false)).app 2 ⟨false, H.n, 0, 0, 0, 0⟩ x2 a0.len).bind fun x4 =>
    some (x4.1, x4.2)))
/- 5 congou/congoulaw05.list -/
def ret5 : Sl → AV := fun r => .sl r
noncomputable def r5 (a0 : Sl) (H : Hp) : Option (Sl × Hp) :=
  ck (((0 : Int) ≤ 0 ∧ 0 ≤ (if 11 < (a0.len : Int) then 11 else (a0.len : Int)) ∧ (if 11 < (a0.len : Int) then 11 else (a0.len : Int)) ≤ (a0.cap : Int)) ∧ (a0.opn = 0 ∨ a0.opn = 2)) (
  (r24 (a0.cut 2 (0 : Int).toNat ((if 11 < (a0.len : Int) then 11 else (a0.len : Int)) : Int).toNat) H).bind fun p2 =>
  some (p2.1, p2.2))
/- 47 congou/deals.along -/
def ret47 : Int × Int → AV := fun r => .agg [.int .i64 r.1, .int .i64 r.2]
noncomputable def r47 (a0 : Int) (a1_0 : Int) (a1_1 : Int) (a2_0 : Int) (a2_1 : Int) (H : Hp) : Option ((Int × Int) × Hp) :=
  lt (((H.push (.cells [.int .i64 a1_0, .int .i64 a1_1] false)).push (.cells [.int .i64 a2_0, .int .i64 a2_1] false)).push (.cells [.int .i64 0, .int .i64 0] false)) fun H1 =>
  (H1.ldI .i64 H.n (0 + 0)).bind fun x2 =>
  (H1.ldI .i64 ((H.push (.cells [.int .i64 a1_0, .int .i64 a1_1] false)).n) (0 + 0)).bind fun x3 =>
  (H1.ldI .i64 H.n (0 + 1)).bind fun x4 =>
  (H1.ldI .i64 ((H.push (.cells [.int .i64 a1_0, .int .i64 a1_1] false)).n) (0 + 1)).bind fun x5 =>
  (r18 (w64 (x2 * x3)) (w64 (x4 * x5)) H0).bind fun p6 =>
  ((H1.push (.cells [.int .i64 0, .int .i64 0] false)).sts H1.n 0 [.int .i64 p6.1.1, .int .i64 p6.1.2]).bind fun H7 =>
  (H7.ldI .i64 H1.n (0 + 1)).bind fun x8 =>
  (H7.ldI .i64 H1.n (0 + 0)).bind fun x9 =>
  (H7.ldI .i64 H1.n (0 + 1)).bind fun x10 =>
  (r18 (w64 ((w64 (a0 * x8)) + x9)) x10 H0).bind fun p11 =>
  (H7.sts (((H.push (.cells [.int .i64 a1_0, .int .i64 a1_1] false)).push (.cells [.int .i64 a2_0, .int .i64 a2_1] false)).n) 0 [.int .i64 p11.1.1, .int .i64 p11.1.2]).bind fun H12 =>
  (H12.ldI .i64 (((H.push (.cells [.int .i64 a1_0, .int .i64 a1_1] false)).push (.cells [.int .i64 a2_0, .int .i64 a2_1] false)).n) 0).bind fun x13 =>
  (H12.ldI .i64 (((H.push (.cells [.int .i64 a1_0, .int .i64 a1_1] false)).push (.cells [.int .i64 a2_0, .int .i64 a2_1] false)).n) (0 + 1)).bind fun x14 =>
  some ((x13, x14), H12)
/- 25 (congou/deals.offers).far -/
def ret25 : Int × Int × Int × Int → AV := fun r => .agg [.int .i64 r.1, .int .i64 r.2.1, .int .i64 r.2.2.1, .int .i64 r.2.2.2]
noncomputable def r25_j1 (app : App) (kt0 : Nat → Nat → Nat → Nat → Nat → Sl → Int → Int → Hp → Option ((Int × Int × Int × Int) × Hp)) (v1 : Nat) (v2 : Nat) (v3 : Nat) (v4 : Nat) (v5 : Nat) (v6 : Nat) (v7 : Sl) (v8 : Int) (v9 : Int) (v10 : Bool) (H : Hp) : Option ((Int × Int × Int × Int) × Hp) :=
  if v10 = true then
    ((H.ldI .i64 v6 0).bind fun x2 =>
    (H.ldI .i64 v6 (0 + 1)).bind fun x3 =>
    (H.sts v5 0 [.int .i64 x2, .int .i64 x3]).bind fun H4 =>
    kt0 v1 v2 v3 v4 v5 v7 v8 (w64 (v9 + 1)) H4)
  else
    (kt0 v1 v2 v3 v4 v5 v7 v8 (w64 (v9 + 1)) H)
noncomputable def r25_l0 (app : App) : Nat → Nat → Nat → Nat → Nat → Nat → Sl → Int → Int → Hp → Option ((Int × Int × Int × Int) × Hp)
  | 0, _, _, _, _, _, _, _, _, _ => none
  | k_ + 1, v1, v2, v3, v4, v5, v6, v7, v8, H => if v8 < v7 then
    (ck ((0 : Int) ≤ v8 ∧ v8 < (v6.len : Int)) (
    (H.ldI .i64 v6.b (v6.o + (v8 : Int).toNat * 3)).bind fun x3 =>
    (H.ldI .i64 v6.b ((v6.o + (v8 : Int).toNat * 3) + 1)).bind fun x4 =>
    (H.ldI .i64 v6.b ((v6.o + (v8 : Int).toNat * 3) + 2)).bind fun x5 =>
    ((H.push (.cells [.int .i64 0, .int .i64 0, .int .i64 0] false)).sts H.n 0 [.int .i64 x3, .int .i64 x4, .int .i64 x5]).bind fun H6 =>
    (H6.ldI .i64 H.n (0 + 0)).bind fun x7 =>
    (H6.ldI .i64 v2 (0 + 0)).bind fun x8 =>
    (H6.ldI .i64 v3 (0 + 1)).bind fun x9 =>
    (H6.ldI .i64 H.n (0 + 1)).bind fun x10 =>
    (H6.ldI .i64 v3 (0 + 0)).bind fun x11 =>
    (H6.ldI .i64 v2 (0 + 1)).bind fun x12 =>
    if (w64 ((w64 ((w64 (x7 * x8)) * x9)) + (w64 ((w64 (x10 * x11)) * x12)))) = 0 then
      (r25_l0 app k_ v1 v2 v3 v4 v5 v6 v7 (w64 (v8 + 1)) H6)
    else
      ((H6.ldI .i64 H.n 0).bind fun x14 =>
      (H6.ldI .i64 H.n (0 + 1)).bind fun x15 =>
      (H6.ldI .i64 H.n (0 + 2)).bind fun x16 =>
      (H6.ldI .i64 v1 0).bind fun x17 =>
      (H6.ldI .i64 v1 (0 + 1)).bind fun x18 =>
      (r39 x14 x15 x16 x17 x18 H0).bind fun p19 =>
      (H6.ldI .i64 v2 (0 + 1)).bind fun x20 =>
      (H6.ldI .i64 v3 (0 + 1)).bind fun x21 =>
      (r18 (w64 ((w64 (p19.1 * x20)) * x21)) (w64 ((w64 ((w64 (x7 * x8)) * x9)) + (w64 ((w64 (x10 * x11)) * x12)))) H0).bind fun p22 =>
      ((H6.push (.cells [.int .i64 0, .int .i64 0] false)).sts H6.n 0 [.int .i64 p22.1.1, .int .i64 p22.1.2]).bind fun H23 =>
      (H23.ldI .i64 v5 (0 + 1)).bind fun x24 =>
      if x24 = 0 then
        (r25_j1 app (fun v1_ v2_ v3_ v4_ v5_ v6_ v7_ v8_ H_ => r25_l0 app k_ v1_ v2_ v3_ v4_ v5_ v6_ v7_ v8_ H_) v1 v2 v3 v4 v5 H6.n v6 v7 v8 true H23)
      else
        ((H23.ldI .i64 H6.n 0).bind fun x26 =>
        (H23.ldI .i64 H6.n (0 + 1)).bind fun x27 =>
        (H23.ldI .i64 v5 0).bind fun x28 =>
        (H23.ldI .i64 v5 (0 + 1)).bind fun x29 =>
        (r21 x26 x27 x28 x29 H0).bind fun p30 =>
        r25_j1 app (fun v1_ v2_ v3_ v4_ v5_ v6_ v7_ v8_ H_ => r25_l0 app k_ v1_ v2_ v3_ v4_ v5_ v6_ v7_ v8_ H_) v1 v2 v3 v4 v5 H6.n v6 v7 v8 (decide (p30.1 < 0)) H23))))
  else
    ((H.ldI .i64 v1 (0 + (0 : Int).toNat * 1)).bind fun x31 =>
    (H.ldI .i64 v5 0).bind fun x32 =>
    (H.ldI .i64 v5 (0 + 1)).bind fun x33 =>
    (H.ldI .i64 v2 0).bind fun x34 =>
    (H.ldI .i64 v2 (0 + 1)).bind fun x35 =>
    (r47 x31 x32 x33 x34 x35 H0).bind fun p36 =>
    (H.ldI .i64 v1 (0 + (1 : Int).toNat * 1)).bind fun x37 =>
    (H.ldI .i64 v5 0).bind fun x38 =>
    (H.ldI .i64 v5 (0 + 1)).bind fun x39 =>
    (H.ldI .i64 v3 0).bind fun x40 =>
    (H.ldI .i64 v3 (0 + 1)).bind fun x41 =>
    (r47 x37 x38 x39 x40 x41 H0).bind fun p42 =>
    (H.sts v4 0 [.int .i64 p36.1.1, .int .i64 p36.1.2, .int .i64 p42.1.1, .int .i64 p42.1.2]).bind fun H43 =>
    (H43.ldI .i64 v4 0).bind fun x44 =>
    (H43.ldI .i64 v4 (0 + 1)).bind fun x45 =>
    (H43.ldI .i64 v4 (0 + 2)).bind fun x46 =>
    (H43.ldI .i64 v4 (0 + 3)).bind fun x47 =>
    some ((x44, x45, x46, x47), H43))
noncomputable def r25 (app : App) (a0 : Sl) (a1_0 : Int) (a1_1 : Int) (a2_0 : Int) (a2_1 : Int) (a3_0 : Int) (a3_1 : Int) (H : Hp) : Option ((Int × Int × Int × Int) × Hp) :=
  lt ((((H.push (.cells [.int .i64 a1_0, .int .i64 a1_1] false)).push (.cells [.int .i64 a2_0, .int .i64 a2_1] false)).push (.cells [.int .i64 a3_0, .int .i64 a3_1] false)).push (.cells [.int .i64 0, .int .i64 0, .int .i64 0, .int .i64 0] false)) fun H1 =>
  ((H1.push (.cells [.int .i64 0, .int .i64 0] false)).sts H1.n 0 [.int .i64 0, .int .i64 0]).bind fun H2 =>
  (r22 app a0 H2).bind fun p3 =>
  r25_l0 app FUEL H.n ((H.push (.cells [.int .i64 a1_0, .int .i64 a1_1] false)).n) (((H.push (.cells [.int .i64 a1_0, .int .i64 a1_1] false)).push (.cells [.int .i64 a2_0, .int .i64 a2_1] false)).n) ((((H.push (.cells [.int .i64 a1_0, .int .i64 a1_1] false)).push (.cells [.int .i64 a2_0, .int .i64 a2_1] false)).push (.cells [.int .i64 a3_0, .int .i64 a3_1] false)).n) H1.n p3.1 (p3.1.len : Int) 0 p3.2
/- 26 (congou/deals.offers).reach -/
def ret26 : Int × Int → AV := fun r => .agg [.int .i64 r.1, .int .i64 r.2]
noncomputable def r26_j1 (app : App) (kt0 : Int → Nat → Nat → Nat → Sl → Int → Int → Hp → Option ((Int × Int) × Hp)) (v1 : Int) (v2 : Nat) (v3 : Nat) (v4 : Nat) (v5 : Nat) (v6 : Sl) (v7 : Int) (v8 : Int) (v9 : Bool) (H : Hp) : Option ((Int × Int) × Hp) :=
  if v9 = true then
    ((H.ldI .i64 v5 0).bind fun x2 =>
    (H.ldI .i64 v5 (0 + 1)).bind fun x3 =>
    (H.sts v4 0 [.int .i64 x2, .int .i64 x3]).bind fun H4 =>
    kt0 v1 v2 v3 v4 v6 v7 (w64 (v8 + 1)) H4)
  else
    (kt0 v1 v2 v3 v4 v6 v7 (w64 (v8 + 1)) H)
noncomputable def r26_l0 (app : App) : Nat → Int → Nat → Nat → Nat → Sl → Int → Int → Hp → Option ((Int × Int) × Hp)
  | 0, _, _, _, _, _, _, _, _ => none
  | k_ + 1, v1, v2, v3, v4, v5, v6, v7, H => if v7 < v6 then
    (ck ((0 : Int) ≤ v7 ∧ v7 < (v5.len : Int)) (
    (H.ldI .i64 v5.b (v5.o + (v7 : Int).toNat * 3)).bind fun x3 =>
    (H.ldI .i64 v5.b ((v5.o + (v7 : Int).toNat * 3) + 1)).bind fun x4 =>
    (H.ldI .i64 v5.b ((v5.o + (v7 : Int).toNat * 3) + 2)).bind fun x5 =>
    ((H.push (.cells [.int .i64 0, .int .i64 0, .int .i64 0] false)).sts H.n 0 [.int .i64 x3, .int .i64 x4, .int .i64 x5]).bind fun H6 =>
    (H6.ldI .i64 H.n (0 + 0)).bind fun x7 =>
    (H6.ldI .i64 H.n (0 + 1)).bind fun x8 =>
    ck ((0 : Int) ≤ v1 ∧ v1 < ((2 : Nat) : Int)) (
    (apart false 1 [.int .i64 x7, .int .i64 x8] ((v1 : Int).toNat * 1)).bind fun x10 =>
    (x10.asI .i64).bind fun x11 =>
    if x11 = 0 then
      (r26_l0 app k_ v1 v2 v3 v4 v5 v6 (w64 (v7 + 1)) H6)
    else
      ((H6.ldI .i64 H.n 0).bind fun x13 =>
      (H6.ldI .i64 H.n (0 + 1)).bind fun x14 =>
      (H6.ldI .i64 H.n (0 + 2)).bind fun x15 =>
      (H6.ldI .i64 v2 0).bind fun x16 =>
      (H6.ldI .i64 v2 (0 + 1)).bind fun x17 =>
      (r39 x13 x14 x15 x16 x17 H0).bind fun p18 =>
      (r18 p18.1 x11 H0).bind fun p19 =>
      ((H6.push (.cells [.int .i64 0, .int .i64 0] false)).sts H6.n 0 [.int .i64 p19.1.1, .int .i64 p19.1.2]).bind fun H20 =>
      (H20.ldI .i64 v4 (0 + 1)).bind fun x21 =>
      if x21 = 0 then
        (r26_j1 app (fun v1_ v2_ v3_ v4_ v5_ v6_ v7_ H_ => r26_l0 app k_ v1_ v2_ v3_ v4_ v5_ v6_ v7_ H_) v1 v2 v3 v4 H6.n v5 v6 v7 true H20)
      else
        ((H20.ldI .i64 H6.n 0).bind fun x23 =>
        (H20.ldI .i64 H6.n (0 + 1)).bind fun x24 =>
        (H20.ldI .i64 v4 0).bind fun x25 =>
        (H20.ldI .i64 v4 (0 + 1)).bind fun x26 =>
        (r21 x23 x24 x25 x26 H0).bind fun p27 =>
        r26_j1 app (fun v1_ v2_ v3_ v4_ v5_ v6_ v7_ H_ => r26_l0 app k_ v1_ v2_ v3_ v4_ v5_ v6_ v7_ H_) v1 v2 v3 v4 H6.n v5 v6 v7 (decide (p27.1 < 0)) H20)))))
  else
    ((H.ldI .i64 v4 0).bind fun x28 =>
    (H.ldI .i64 v4 (0 + 1)).bind fun x29 =>
    (H.sts v3 0 [.int .i64 x28, .int .i64 x29]).bind fun H30 =>
    (H30.ldI .i64 v3 0).bind fun x31 =>
    (H30.ldI .i64 v3 (0 + 1)).bind fun x32 =>
    some ((x31, x32), H30))
noncomputable def r26 (app : App) (a0 : Sl) (a1_0 : Int) (a1_1 : Int) (a2 : Int) (H : Hp) : Option ((Int × Int) × Hp) :=
  lt ((H.push (.cells [.int .i64 a1_0, .int .i64 a1_1] false)).push (.cells [.int .i64 0, .int .i64 0] false)) fun H1 =>
  ((H1.push (.cells [.int .i64 0, .int .i64 0] false)).sts H1.n 0 [.int .i64 0, .int .i64 0]).bind fun H2 =>
  (r22 app a0 H2).bind fun p3 =>
  r26_l0 app FUEL a2 H.n ((H.push (.cells [.int .i64 a1_0, .int .i64 a1_1] false)).n) H1.n p3.1 (p3.1.len : Int) 0 p3.2
/- 6 congou/deals.Best -/
def ret6 : Int × Int × Int × Int × Int → AV := fun r => .tup [.agg [.int .i64 r.1, .int .i64 r.2.1, .int .i64 r.2.2.1, .int .i64 r.2.2.2.1], .int .i64 r.2.2.2.2]
noncomputable def r6 (app : App) (a0 : Sl) (a1_0 : Int) (a1_1 : Int) (H : Hp) : Option ((Int × Int × Int × Int × Int) × Hp) :=
  lt ((H.push (.cells [.int .i64 a1_0, .int .i64 a1_1] false)).push (.cells [.int .i64 0, .int .i64 0, .int .i64 0, .int .i64 0] false)) fun H1 =>
  (H1.ldI .i64 H.n 0).bind fun x2 =>
  (H1.ldI .i64 H.n (0 + 1)).bind fun x3 =>
  (r16 app a0 x2 x3 H1).bind fun p4 =>
  if p4.1.2 ≠ 0 then
    ((p4.2.sts ((H.push (.cells [.int .i64 a1_0, .int .i64 a1_1] false)).n) 0 [.int .i64 0, .int .i64 0, .int .i64 0, .int .i64 0]).bind fun H6 =>
    (H6.ldI .i64 ((H.push (.cells [.int .i64 a1_0, .int .i64 a1_1] false)).n) 0).bind fun x7 =>
    (H6.ldI .i64 ((H.push (.cells [.int .i64 a1_0, .int .i64 a1_1] false)).n) (0 + 1)).bind fun x8 =>
    (H6.ldI .i64 ((H.push (.cells [.int .i64 a1_0, .int .i64 a1_1] false)).n) (0 + 2)).bind fun x9 =>
    (H6.ldI .i64 ((H.push (.cells [.int .i64 a1_0, .int .i64 a1_1] false)).n) (0 + 3)).bind fun x10 =>
    some ((x7, x8, x9, x10, p4.1.2), H6))
  else
    ((p4.2.ldI .i64 H.n 0).bind fun x11 =>
    (p4.2.ldI .i64 H.n (0 + 1)).bind fun x12 =>
    (p4.2.ldI .i64 H.n 0).bind fun x13 =>
    (p4.2.ldI .i64 H.n (0 + 1)).bind fun x14 =>
    (r26 app p4.1.1 x13 x14 0 p4.2).bind fun p15 =>
    (p15.2.ldI .i64 H.n 0).bind fun x16 =>
    (p15.2.ldI .i64 H.n (0 + 1)).bind fun x17 =>
    (r26 app p4.1.1 x16 x17 1 p15.2).bind fun p18 =>
    (r25 app p4.1.1 x11 x12 p15.1.1 p15.1.2 p18.1.1 p18.1.2 p18.2).bind fun p19 =>
    (p19.2.sts ((H.push (.cells [.int .i64 a1_0, .int .i64 a1_1] false)).n) 0 [.int .i64 p19.1.1, .int .i64 p19.1.2.1, .int .i64 p19.1.2.2.1, .int .i64 p19.1.2.2.2]).bind fun H20 =>
    ck (p4.2.ldI .i64 H.n 0 = some x16) (
    ck (p4.2.ldI .i64 H.n (0 + 1) = some x17) (
    ck (p15.2.ldI .i64 H.n 0 = some x11) (
    ck (p15.2.ldI .i64 H.n (0 + 1) = some x12) (
    ck (p18.2.ldI .i64 H.n 0 = some x11) (
    ck (p18.2.ldI .i64 H.n (0 + 1) = some x12) (
    ck (p18.2.ldI .i64 H.n 0 = some x16) (
    ck (p18.2.ldI .i64 H.n (0 + 1) = some x17) (
    (H20.ldI .i64 ((H.push (.cells [.int .i64 a1_0, .int .i64 a1_1] false)).n) 0).bind fun x29 =>
    (H20.ldI .i64 ((H.push (.cells [.int .i64 a1_0, .int .i64 a1_1] false)).n) (0 + 1)).bind fun x30 =>
    (H20.ldI .i64 ((H.push (.cells [.int .i64 a1_0, .int .i64 a1_1] false)).n) (0 + 2)).bind fun x31 =>
    (H20.ldI .i64 ((H.push (.cells [.int .i64 a1_0, .int .i64 a1_1] false)).n) (0 + 3)).bind fun x32 =>
    some ((x29, x30, x31, x32, 0), H20))))))))))
/- 7 congou/deals.Halves -/
def ret7 : Int × Int × Int × Int × Int → AV := fun r => .tup [.agg [.int .i64 r.1, .int .i64 r.2.1, .int .i64 r.2.2.1, .int .i64 r.2.2.2.1], .int .i64 r.2.2.2.2]
noncomputable def r7 (app : App) (a0 : Sl) (a1_0 : Int) (a1_1 : Int) (H : Hp) : Option ((Int × Int × Int × Int × Int) × Hp) :=
  lt ((H.push (.cells [.int .i64 a1_0, .int .i64 a1_1] false)).push (.cells [.int .i64 0, .int .i64 0, .int .i64 0, .int .i64 0] false)) fun H1 =>
  (H1.ldI .i64 H.n 0).bind fun x2 =>
  (H1.ldI .i64 H.n (0 + 1)).bind fun x3 =>
  (r16 app a0 x2 x3 H1).bind fun p4 =>
  if p4.1.2 ≠ 0 then
    ((p4.2.sts ((H.push (.cells [.int .i64 a1_0, .int .i64 a1_1] false)).n) 0 [.int .i64 0, .int .i64 0, .int .i64 0, .int .i64 0]).bind fun H6 =>
    (H6.ldI .i64 ((H.push (.cells [.int .i64 a1_0, .int .i64 a1_1] false)).n) 0).bind fun x7 =>
    (H6.ldI .i64 ((H.push (.cells [.int .i64 a1_0, .int .i64 a1_1] false)).n) (0 + 1)).bind fun x8 =>
    (H6.ldI .i64 ((H.push (.cells [.int .i64 a1_0, .int .i64 a1_1] false)).n) (0 + 2)).bind fun x9 =>
    (H6.ldI .i64 ((H.push (.cells [.int .i64 a1_0, .int .i64 a1_1] false)).n) (0 + 3)).bind fun x10 =>
    some ((x7, x8, x9, x10, p4.1.2), H6))
  else
    ((r18 1 1 H0).bind fun p11 =>
    ((p4.2.push (.cells [.int .i64 0, .int .i64 0] false)).sts p4.2.n 0 [.int .i64 p11.1.1, .int .i64 p11.1.2]).bind fun H12 =>
    (H12.ldI .i64 H.n 0).bind fun x13 =>
    (H12.ldI .i64 H.n (0 + 1)).bind fun x14 =>
    (H12.ldI .i64 p4.2.n 0).bind fun x15 =>
    (H12.ldI .i64 p4.2.n (0 + 1)).bind fun x16 =>
    (H12.ldI .i64 p4.2.n 0).bind fun x17 =>
    (H12.ldI .i64 p4.2.n (0 + 1)).bind fun x18 =>
    (r25 app p4.1.1 x13 x14 x15 x16 x17 x18 H12).bind fun p19 =>
    (p19.2.sts ((H.push (.cells [.int .i64 a1_0, .int .i64 a1_1] false)).n) 0 [.int .i64 p19.1.1, .int .i64 p19.1.2.1, .int .i64 p19.1.2.2.1, .int .i64 p19.1.2.2.2]).bind fun H20 =>
    (H20.ldI .i64 ((H.push (.cells [.int .i64 a1_0, .int .i64 a1_1] false)).n) 0).bind fun x21 =>
    (H20.ldI .i64 ((H.push (.cells [.int .i64 a1_0, .int .i64 a1_1] false)).n) (0 + 1)).bind fun x22 =>
    (H20.ldI .i64 ((H.push (.cells [.int .i64 a1_0, .int .i64 a1_1] false)).n) (0 + 2)).bind fun x23 =>
    (H20.ldI .i64 ((H.push (.cells [.int .i64 a1_0, .int .i64 a1_1] false)).n) (0 + 3)).bind fun x24 =>
    some ((x21, x22, x23, x24, 0), H20))
/- 9 congou/congouref05.Fallback -/
def ret9 : Bool → AV := fun r => .bool r
noncomputable def r9 (a0_0 : Int) (a0_1 : Int) (H : Hp) : Option (Bool × Hp) :=
  lt (H.push (.cells [.int .i64 a0_0, .int .i64 a0_1] false)) fun H1 =>
  (H1.ldI .i64 H.n (0 + (0 : Int).toNat * 1)).bind fun x2 =>
  if 0 ≤ x2 then
    ((H1.ldI .i64 H.n (0 + (0 : Int).toNat * 1)).bind fun x4 =>
    if x4 ≤ 30 then
      ((H1.ldI .i64 H.n (0 + (1 : Int).toNat * 1)).bind fun x6 =>
      if 0 ≤ x6 then
        ((H1.ldI .i64 H.n (0 + (1 : Int).toNat * 1)).bind fun x8 =>
        some ((decide (x8 ≤ 30)), H1))
      else
        (some (false, H1)))
    else
      (some (false, H1)))
  else
    (some (false, H1))
/- 8 congou/congouref05.Offers -/
def ret8 : Bool → AV := fun r => .bool r
noncomputable def r8_l1 (kt0 : Sl → Sl → Int → Int → Hp → Option (Bool × Hp)) : Nat → Sl → Nat → Sl → Int → Int → Sl → Int → Int → Hp → Option (Bool × Hp)
  | 0, _, _, _, _, _, _, _, _, _ => none
  | k_ + 1, v1, v2, v3, v4, v5, v6, v7, v8, H => if v8 < v7 then
    (ck ((0 : Int) ≤ v8 ∧ v8 < (v6.len : Int)) (
    (H.ldI .i64 v6.b (v6.o + (v8 : Int).toNat * 2)).bind fun x3 =>
    (H.ldI .i64 v6.b ((v6.o + (v8 : Int).toNat * 2) + 1)).bind fun x4 =>
    ((H.push (.cells [.int .i64 0, .int .i64 0] false)).sts H.n 0 [.int .i64 x3, .int .i64 x4]).bind fun H5 =>
    (H5.ldI .i64 v2 0).bind fun x6 =>
    (H5.ldI .i64 v2 (0 + 1)).bind fun x7 =>
    (H5.ldI .i64 H.n 0).bind fun x8 =>
    (H5.ldI .i64 H.n (0 + 1)).bind fun x9 =>
    if (AV.keqs [.int .i64 x6, .int .i64 x7] [.int .i64 x8, .int .i64 x9]) = true then
      (some (false, H5))
    else
      (r8_l1 kt0 k_ v1 v2 v3 v4 v5 v6 v7 (w64 (v8 + 1)) H5)))
  else
    (kt0 v1 v3 v4 (w64 (v5 + 1)) H)
noncomputable def r8_l0 : Nat → Sl → Sl → Int → Int → Hp → Option (Bool × Hp)
  | 0, _, _, _, _, _ => none
  | k_ + 1, v1, v2, v3, v4, H => if v4 < v3 then
    (ck ((0 : Int) ≤ v4 ∧ v4 < (v2.len : Int)) (
    (H.ldI .i64 v2.b (v2.o + (v4 : Int).toNat * 2)).bind fun x3 =>
    (H.ldI .i64 v2.b ((v2.o + (v4 : Int).toNat * 2) + 1)).bind fun x4 =>
    ((H.push (.cells [.int .i64 0, .int .i64 0] false)).sts H.n 0 [.int .i64 x3, .int .i64 x4]).bind fun H5 =>
    (H5.ldI .i64 H.n 0).bind fun x6 =>
    (H5.ldI .i64 H.n (0 + 1)).bind fun x7 =>
    (r9 x6 x7 H0).bind fun p8 =>
    if p8.1 = true then
      (ck (((0 : Int) ≤ 0 ∧ 0 ≤ v4 ∧ v4 ≤ (v1.cap : Int)) ∧ (v1.opn = 0 ∨ v1.opn = 2)) (
      r8_l1 (fun v1_ v2_ v3_ v4_ H_ => r8_l0 k_ v1_ v2_ v3_ v4_ H_) FUEL v1 H.n v2 v3 v4 (v1.cut 2 (0 : Int).toNat (v4 : Int).toNat) ((v1.cut 2 (0 : Int).toNat (v4 : Int).toNat).len : Int) 0 H5))
    else
      (some (false, H5))))
  else
    (if 1 ≤ (v1.len : Int) then
      (some ((decide ((v1.len : Int) ≤ 8)), H))
    else
      (some (false, H)))
noncomputable def r8 (a0 : Sl) (H : Hp) : Option (Bool × Hp) :=
  r8_l0 FUEL a0 a0 (a0.len : Int) 0 H
/- 48 congou/congouref05.Limits -/
def ret48 : Sl → AV := fun r => .sl r
noncomputable def r48_j3 (kt1 : Sl → Sl → Sl → Nat → Sl → Int → Int → Sl → Int → Int → Hp → Option (Sl × Hp)) (v1 : Sl) (v2 : Sl) (v3 : Sl) (v4 : Nat) (v5 : Nat) (v6 : Sl) (v7 : Int) (v8 : Int) (v9 : Sl) (v10 : Int) (v11 : Int) (v12 : Bool) (H : Hp) : Option (Sl × Hp) :=
  if v12 = true then
    ((H.ldI .i64 v4 (0 + (1 : Int).toNat * 1)).bind fun x2 =>
    (H.ldI .i64 v5 (0 + (1 : Int).toNat * 1)).bind fun x3 =>
    (H.ldI .i64 v5 (0 + (0 : Int).toNat * 1)).bind fun x4 =>
    (H.ldI .i64 v4 (0 + (0 : Int).toNat * 1)).bind fun x5 =>
    (H.ldI .i64 v4 (0 + (1 : Int).toNat * 1)).bind fun x6 =>
    (H.ldI .i64 v5 (0 + (1 : Int).toNat * 1)).bind fun x7 =>
    (H.ldI .i64 v4 (0 + (0 : Int).toNat * 1)).bind fun x8 =>
    (H.ldI .i64 v5 (0 + (0 : Int).toNat * 1)).bind fun x9 =>
    (H.ldI .i64 v4 (0 + (0 : Int).toNat * 1)).bind fun x10 =>
    (H.ldI .i64 v4 (0 + (1 : Int).toNat * 1)).bind fun x11 =>
    (H.apN 3 v2 [.int .i64 (w64 (x2 - x3)), .int .i64 (w64 (x4 - x5)), .int .i64 (w64 ((w64 ((w64 (x6 - x7)) * x8)) + (w64 ((w64 (x9 - x10)) * x11))))] 1).bind fun x12 =>
    kt1 v1 x12.1 v3 v4 v6 v7 v8 v9 v10 (w64 (v11 + 1)) x12.2)
  else
    (kt1 v1 v2 v3 v4 v6 v7 v8 v9 v10 (w64 (v11 + 1)) H)
noncomputable def r48_l1 (kt0 : Sl → Sl → Sl → Sl → Int → Int → Hp → Option (Sl × Hp)) : Nat → Sl → Sl → Sl → Nat → Sl → Int → Int → Sl → Int → Int → Hp → Option (Sl × Hp)
  | 0, _, _, _, _, _, _, _, _, _, _, _ => none
  | k_ + 1, v1, v2, v3, v4, v5, v6, v7, v8, v9, v10, H => if v10 < v9 then
    (ck ((0 : Int) ≤ v10 ∧ v10 < (v8.len : Int)) (
    (H.ldI .i64 v8.b (v8.o + (v10 : Int).toNat * 2)).bind fun x3 =>
    (H.ldI .i64 v8.b ((v8.o + (v10 : Int).toNat * 2) + 1)).bind fun x4 =>
    ((H.push (.cells [.int .i64 0, .int .i64 0] false)).sts H.n 0 [.int .i64 x3, .int .i64 x4]).bind fun H5 =>
    (H5.ldI .i64 H.n (0 + (0 : Int).toNat * 1)).bind fun x6 =>
    (H5.ldI .i64 v4 (0 + (0 : Int).toNat * 1)).bind fun x7 =>
    if x7 < x6 then
      ((H5.ldI .i64 H.n (0 + (1 : Int).toNat * 1)).bind fun x9 =>
      (H5.ldI .i64 v4 (0 + (1 : Int).toNat * 1)).bind fun x10 =>
      r48_j3 (fun v1_ v2_ v3_ v4_ v5_ v6_ v7_ v8_ v9_ v10_ H_ => r48_l1 kt0 k_ v1_ v2_ v3_ v4_ v5_ v6_ v7_ v8_ v9_ v10_ H_) v1 v2 v3 v4 H.n v5 v6 v7 v8 v9 v10 (decide (x9 < x10)) H5)
    else
      (r48_j3 (fun v1_ v2_ v3_ v4_ v5_ v6_ v7_ v8_ v9_ v10_ H_ => r48_l1 kt0 k_ v1_ v2_ v3_ v4_ v5_ v6_ v7_ v8_ v9_ v10_ H_) v1 v2 v3 v4 H.n v5 v6 v7 v8 v9 v10 false H5)))
  else
    (kt0 v1 v2 v3 v5 v6 (w64 (v7 + 1)) H)
noncomputable def r48_l4 (kt2 : Sl → Sl → Sl → Int → Int → Hp → Option (Sl × Hp)) : Nat → Sl → Sl → Nat → Bool → Sl → Int → Int → Sl → Int → Int → Hp → Option (Sl × Hp)
  | 0, _, _, _, _, _, _, _, _, _, _, _ => none
  | k_ + 1, v1, v2, v3, v4, v5, v6, v7, v8, v9, v10, H => if v10 < v9 then
    (ck ((0 : Int) ≤ v10 ∧ v10 < (v8.len : Int)) (
    (H.ldI .i64 v8.b (v8.o + (v10 : Int).toNat * 2)).bind fun x3 =>
    (H.ldI .i64 v8.b ((v8.o + (v10 : Int).toNat * 2) + 1)).bind fun x4 =>
    ((H.push (.cells [.int .i64 0, .int .i64 0] false)).sts H.n 0 [.int .i64 x3, .int .i64 x4]).bind fun H5 =>
    if v4 = true then
      ((H5.ldI .i64 v3 (0 + (0 : Int).toNat * 1)).bind fun x7 =>
      (H5.ldI .i64 H.n (0 + (0 : Int).toNat * 1)).bind fun x8 =>
      (H5.ldI .i64 v3 (0 + (1 : Int).toNat * 1)).bind fun x9 =>
      (H5.ldI .i64 H.n (0 + (1 : Int).toNat * 1)).bind fun x10 =>
      (H5.ldI .i64 v3 (0 + (2 : Int).toNat * 1)).bind fun x11 =>
      r48_l4 kt2 k_ v1 v2 v3 (decide ((w64 ((w64 (x7 * x8)) + (w64 (x9 * x10)))) ≤ x11)) v5 v6 v7 v8 v9 (w64 (v10 + 1)) H5)
    else
      (r48_l4 kt2 k_ v1 v2 v3 false v5 v6 v7 v8 v9 (w64 (v10 + 1)) H5)))
  else
    (if v4 = true then
      ((H.ldI .i64 v3 0).bind fun x13 =>
      (H.ldI .i64 v3 (0 + 1)).bind fun x14 =>
      (H.ldI .i64 v3 (0 + 2)).bind fun x15 =>
      (H.apN 3 v2 [.int .i64 x13, .int .i64 x14, .int .i64 x15] 1).bind fun x16 =>
      kt2 v1 x16.1 v5 v6 (w64 (v7 + 1)) x16.2)
    else
      (kt2 v1 v2 v5 v6 (w64 (v7 + 1)) H))
noncomputable def r48_l2 : Nat → Sl → Sl → Sl → Int → Int → Hp → Option (Sl × Hp)
  | 0, _, _, _, _, _, _ => none
  | k_ + 1, v1, v2, v3, v4, v5, H => if v5 < v4 then
    (ck ((0 : Int) ≤ v5 ∧ v5 < (v3.len : Int)) (
    (H.ldI .i64 v3.b (v3.o + (v5 : Int).toNat * 3)).bind fun x3 =>
    (H.ldI .i64 v3.b ((v3.o + (v5 : Int).toNat * 3) + 1)).bind fun x4 =>
    (H.ldI .i64 v3.b ((v3.o + (v5 : Int).toNat * 3) + 2)).bind fun x5 =>
    ((H.push (.cells [.int .i64 0, .int .i64 0, .int .i64 0] false)).sts H.n 0 [.int .i64 x3, .int .i64 x4, .int .i64 x5]).bind fun H6 =>
    r48_l4 (fun v1_ v2_ v3_ v4_ v5_ H_ => r48_l2 k_ v1_ v2_ v3_ v4_ v5_ H_) FUEL v1 v2 H.n true v3 v4 v5 v1 (v1.len : Int) 0 H6))
  else
    (some (v2, H))
noncomputable def r48_l0 : Nat → Sl → Sl → Sl → Sl → Int → Int → Hp → Option (Sl × Hp)
  | 0, _, _, _, _, _, _, _ => none
  | k_ + 1, v1, v2, v3, v4, v5, v6, H => if v6 < v5 then
    (ck ((0 : Int) ≤ v6 ∧ v6 < (v4.len : Int)) (
    (H.ldI .i64 v4.b (v4.o + (v6 : Int).toNat * 2)).bind fun x3 =>
    (H.ldI .i64 v4.b ((v4.o + (v6 : Int).toNat * 2) + 1)).bind fun x4 =>
    ((H.push (.cells [.int .i64 0, .int .i64 0] false)).sts H.n 0 [.int .i64 x3, .int .i64 x4]).bind fun H5 =>
    (H5.ldI .i64 H.n (0 + (0 : Int).toNat * 1)).bind fun x6 =>
    (H5.ldI .i64 H.n (0 + (1 : Int).toNat * 1)).bind fun x7 =>
    (H5.apN 3 v2 [.int .i64 1, .int .i64 0, .int .i64 x6, .int .i64 0, .int .i64 1, .int .i64 x7] 2).bind fun x8 =>
    r48_l1 (fun v1_ v2_ v3_ v4_ v5_ v6_ H_ => r48_l0 k_ v1_ v2_ v3_ v4_ v5_ v6_ H_) FUEL v1 x8.1 v3 H.n v4 v5 v6 v1 (v1.len : Int) 0 x8.2))
  else
    (r48_l2 FUEL v1 v3 v2 (v2.len : Int) 0 H)
noncomputable def r48 (a0 : Sl) (H : Hp) : Option (Sl × Hp) :=
  r48_l0 FUEL a0 ⟨true, 0, 0, 0, 0, 0⟩ ⟨true, 0, 0, 0, 0, 0⟩ a0 (a0.len : Int) 0 H
/- 27 congou/congouref05.Is -/
def ret27 : Bool → AV := fun r => .bool r
noncomputable def r27_l0 : Nat → Nat → Sl → Int → Int → Hp → Option (Bool × Hp)
  | 0, _, _, _, _, _ => none
  | k_ + 1, v1, v2, v3, v4, H => if v4 < v3 then
    (ck ((0 : Int) ≤ v4 ∧ v4 < (v2.len : Int)) (
    (H.ldI .i64 v2.b (v2.o + (v4 : Int).toNat * 3)).bind fun x3 =>
    (H.ldI .i64 v2.b ((v2.o + (v4 : Int).toNat * 3) + 1)).bind fun x4 =>
    (H.ldI .i64 v2.b ((v2.o + (v4 : Int).toNat * 3) + 2)).bind fun x5 =>
    ((H.push (.cells [.int .i64 0, .int .i64 0, .int .i64 0] false)).sts H.n 0 [.int .i64 x3, .int .i64 x4, .int .i64 x5]).bind fun H6 =>
    (H6.ldI .i64 H.n (0 + (0 : Int).toNat * 1)).bind fun x7 =>
    (H6.ldI .i64 v1 ((0 + 0) + 0)).bind fun x8 =>
    (H6.ldI .i64 v1 ((0 + 2) + 1)).bind fun x9 =>
    (H6.ldI .i64 H.n (0 + (1 : Int).toNat * 1)).bind fun x10 =>
    (H6.ldI .i64 v1 ((0 + 2) + 0)).bind fun x11 =>
    (H6.ldI .i64 v1 ((0 + 0) + 1)).bind fun x12 =>
    (H6.ldI .i64 H.n (0 + (2 : Int).toNat * 1)).bind fun x13 =>
    (H6.ldI .i64 v1 ((0 + 0) + 1)).bind fun x14 =>
    (H6.ldI .i64 v1 ((0 + 2) + 1)).bind fun x15 =>
    if (w64 ((w64 (x13 * x14)) * x15)) < (w64 ((w64 ((w64 (x7 * x8)) * x9)) + (w64 ((w64 (x10 * x11)) * x12)))) then
      (some (false, H6))
    else
      (r27_l0 k_ v1 v2 v3 (w64 (v4 + 1)) H6)))
  else
    (some (true, H))
noncomputable def r27 (a0 : Sl) (a1_0 : Int) (a1_1 : Int) (a1_2 : Int) (a1_3 : Int) (H : Hp) : Option (Bool × Hp) :=
  lt (H.push (.cells [.int .i64 a1_0, .int .i64 a1_1, .int .i64 a1_2, .int .i64 a1_3] false)) fun H1 =>
  (r48 a0 H1).bind fun p2 =>
  r27_l0 FUEL H.n p2.1 (p2.1.len : Int) 0 p2.2
/- 30 congou/congouref05.whole -/
def ret30 : Int × Int → AV := fun r => .agg [.int .i64 r.1, .int .i64 r.2]
noncomputable def r30 (a0 : Int) (H : Hp) : Option ((Int × Int) × Hp) :=
  lt (H.push (.cells [.int .i64 0, .int .i64 0] false)) fun H1 =>
  (H1.sts H.n 0 [.int .i64 a0, .int .i64 1]).bind fun H2 =>
  (H2.ldI .i64 H.n 0).bind fun x3 =>
  (H2.ldI .i64 H.n (0 + 1)).bind fun x4 =>
  some ((x3, x4), H2)
/- 28 congou/congouref05.pair -/
def ret28 : Int × Int × Int × Int → AV := fun r => .agg [.int .i64 r.1, .int .i64 r.2.1, .int .i64 r.2.2.1, .int .i64 r.2.2.2]
noncomputable def r28 (a0_0 : Int) (a0_1 : Int) (H : Hp) : Option ((Int × Int × Int × Int) × Hp) :=
  lt ((H.push (.cells [.int .i64 a0_0, .int .i64 a0_1] false)).push (.cells [.int .i64 0, .int .i64 0, .int .i64 0, .int .i64 0] false)) fun H1 =>
  (H1.ldI .i64 H.n (0 + (0 : Int).toNat * 1)).bind fun x2 =>
  (r30 x2 H0).bind fun p3 =>
  (H1.ldI .i64 H.n (0 + (1 : Int).toNat * 1)).bind fun x4 =>
  (r30 x4 H0).bind fun p5 =>
  (H1.sts ((H.push (.cells [.int .i64 a0_0, .int .i64 a0_1] false)).n) 0 [.int .i64 p3.1.1, .int .i64 p3.1.2, .int .i64 p5.1.1, .int .i64 p5.1.2]).bind fun H6 =>
  (H6.ldI .i64 ((H.push (.cells [.int .i64 a0_0, .int .i64 a0_1] false)).n) 0).bind fun x7 =>
  (H6.ldI .i64 ((H.push (.cells [.int .i64 a0_0, .int .i64 a0_1] false)).n) (0 + 1)).bind fun x8 =>
  (H6.ldI .i64 ((H.push (.cells [.int .i64 a0_0, .int .i64 a0_1] false)).n) (0 + 2)).bind fun x9 =>
  (H6.ldI .i64 ((H.push (.cells [.int .i64 a0_0, .int .i64 a0_1] false)).n) (0 + 3)).bind fun x10 =>
  some ((x7, x8, x9, x10), H6)
/- 33 congou/congouref05.Frac -/
def ret33 : Int × Int → AV := fun r => .agg [.int .i64 r.1, .int .i64 r.2]
noncomputable def r33_l0 : Nat → Int → Int → Nat → Int → Int → Hp → Option ((Int × Int) × Hp)
  | 0, _, _, _, _, _, _ => none
  | k_ + 1, v1, v2, v3, v4, v5, H => if v5 ≠ 0 then
    (ck (v5 ≠ 0) (
    r33_l0 k_ v1 v2 v3 v5 (Int.tmod v4 v5) H))
  else
    (ck (v4 ≠ 0) (
    ck (v4 ≠ 0) (
    (H.sts v3 0 [.int .i64 (w64 (Int.tdiv v1 v4)), .int .i64 (w64 (Int.tdiv v2 v4))]).bind fun H5 =>
    (H5.ldI .i64 v3 0).bind fun x6 =>
    (H5.ldI .i64 v3 (0 + 1)).bind fun x7 =>
    some ((x6, x7), H5))))
noncomputable def r33_j1 (v1 : Int) (v2 : Int) (v3 : Nat) (H : Hp) : Option ((Int × Int) × Hp) :=
  r33_l0 FUEL v1 v2 v3 (if v1 < (w64 (0 - v1)) then (w64 (0 - v1)) else v1) v2 H
noncomputable def r33 (a0 : Int) (a1 : Int) (H : Hp) : Option ((Int × Int) × Hp) :=
  lt (H.push (.cells [.int .i64 0, .int .i64 0] false)) fun H1 =>
  if a1 < 0 then
    (r33_j1 (w64 (0 - a0)) (w64 (0 - a1)) H.n H1)
  else
    (r33_j1 a0 a1 H.n H1)
/- 32 congou/congouref05.plus -/
def ret32 : Int × Int → AV := fun r => .agg [.int .i64 r.1, .int .i64 r.2]
noncomputable def r32 (a0_0 : Int) (a0_1 : Int) (a1_0 : Int) (a1_1 : Int) (H : Hp) : Option ((Int × Int) × Hp) :=
  lt (((H.push (.cells [.int .i64 a0_0, .int .i64 a0_1] false)).push (.cells [.int .i64 a1_0, .int .i64 a1_1] false)).push (.cells [.int .i64 0, .int .i64 0] false)) fun H1 =>
  (H1.ldI .i64 H.n (0 + 0)).bind fun x2 =>
  (H1.ldI .i64 ((H.push (.cells [.int .i64 a0_0, .int .i64 a0_1] false)).n) (0 + 1)).bind fun x3 =>
  (H1.ldI .i64 ((H.push (.cells [.int .i64 a0_0, .int .i64 a0_1] false)).n) (0 + 0)).bind fun x4 =>
  (H1.ldI .i64 H.n (0 + 1)).bind fun x5 =>
  (H1.ldI .i64 H.n (0 + 1)).bind fun x6 =>
  (H1.ldI .i64 ((H.push (.cells [.int .i64 a0_0, .int .i64 a0_1] false)).n) (0 + 1)).bind fun x7 =>
  (r33 (w64 ((w64 (x2 * x3)) + (w64 (x4 * x5)))) (w64 (x6 * x7)) H0).bind fun p8 =>
  (H1.sts (((H.push (.cells [.int .i64 a0_0, .int .i64 a0_1] false)).push (.cells [.int .i64 a1_0, .int .i64 a1_1] false)).n) 0 [.int .i64 p8.1.1, .int .i64 p8.1.2]).bind fun H9 =>
  (H9.ldI .i64 (((H.push (.cells [.int .i64 a0_0, .int .i64 a0_1] false)).push (.cells [.int .i64 a1_0, .int .i64 a1_1] false)).n) 0).bind fun x10 =>
  (H9.ldI .i64 (((H.push (.cells [.int .i64 a0_0, .int .i64 a0_1] false)).push (.cells [.int .i64 a1_0, .int .i64 a1_1] false)).n) (0 + 1)).bind fun x11 =>
  some ((x10, x11), H9)
/- 34 congou/congouref05.Less -/
def ret34 : Bool → AV := fun r => .bool r
noncomputable def r34 (a0_0 : Int) (a0_1 : Int) (a1_0 : Int) (a1_1 : Int) (H : Hp) : Option (Bool × Hp) :=
  lt ((H.push (.cells [.int .i64 a0_0, .int .i64 a0_1] false)).push (.cells [.int .i64 a1_0, .int .i64 a1_1] false)) fun H1 =>
  (H1.ldI .i64 H.n (0 + 0)).bind fun x2 =>
  (H1.ldI .i64 ((H.push (.cells [.int .i64 a0_0, .int .i64 a0_1] false)).n) (0 + 1)).bind fun x3 =>
  (H1.ldI .i64 ((H.push (.cells [.int .i64 a0_0, .int .i64 a0_1] false)).n) (0 + 0)).bind fun x4 =>
  (H1.ldI .i64 H.n (0 + 1)).bind fun x5 =>
  some ((decide ((w64 (x2 * x3)) < (w64 (x4 * x5)))), H1)
/- 35 congou/congouref05.minus -/
def ret35 : Int × Int → AV := fun r => .agg [.int .i64 r.1, .int .i64 r.2]
noncomputable def r35 (a0_0 : Int) (a0_1 : Int) (a1_0 : Int) (a1_1 : Int) (H : Hp) : Option ((Int × Int) × Hp) :=
  lt (((H.push (.cells [.int .i64 a0_0, .int .i64 a0_1] false)).push (.cells [.int .i64 a1_0, .int .i64 a1_1] false)).push (.cells [.int .i64 0, .int .i64 0] false)) fun H1 =>
  (H1.ldI .i64 H.n (0 + 0)).bind fun x2 =>
  (H1.ldI .i64 ((H.push (.cells [.int .i64 a0_0, .int .i64 a0_1] false)).n) (0 + 1)).bind fun x3 =>
  (H1.ldI .i64 ((H.push (.cells [.int .i64 a0_0, .int .i64 a0_1] false)).n) (0 + 0)).bind fun x4 =>
  (H1.ldI .i64 H.n (0 + 1)).bind fun x5 =>
  (H1.ldI .i64 H.n (0 + 1)).bind fun x6 =>
  (H1.ldI .i64 ((H.push (.cells [.int .i64 a0_0, .int .i64 a0_1] false)).n) (0 + 1)).bind fun x7 =>
  (r33 (w64 ((w64 (x2 * x3)) - (w64 (x4 * x5)))) (w64 (x6 * x7)) H0).bind fun p8 =>
  (H1.sts (((H.push (.cells [.int .i64 a0_0, .int .i64 a0_1] false)).push (.cells [.int .i64 a1_0, .int .i64 a1_1] false)).n) 0 [.int .i64 p8.1.1, .int .i64 p8.1.2]).bind fun H9 =>
  (H9.ldI .i64 (((H.push (.cells [.int .i64 a0_0, .int .i64 a0_1] false)).push (.cells [.int .i64 a1_0, .int .i64 a1_1] false)).n) 0).bind fun x10 =>
  (H9.ldI .i64 (((H.push (.cells [.int .i64 a0_0, .int .i64 a0_1] false)).push (.cells [.int .i64 a1_0, .int .i64 a1_1] false)).n) (0 + 1)).bind fun x11 =>
  some ((x10, x11), H9)
/- 36 congou/congouref05.times -/
def ret36 : Int × Int → AV := fun r => .agg [.int .i64 r.1, .int .i64 r.2]
noncomputable def r36 (a0_0 : Int) (a0_1 : Int) (a1_0 : Int) (a1_1 : Int) (H : Hp) : Option ((Int × Int) × Hp) :=
  lt (((H.push (.cells [.int .i64 a0_0, .int .i64 a0_1] false)).push (.cells [.int .i64 a1_0, .int .i64 a1_1] false)).push (.cells [.int .i64 0, .int .i64 0] false)) fun H1 =>
  (H1.ldI .i64 H.n (0 + 0)).bind fun x2 =>
  (H1.ldI .i64 ((H.push (.cells [.int .i64 a0_0, .int .i64 a0_1] false)).n) (0 + 0)).bind fun x3 =>
  (H1.ldI .i64 H.n (0 + 1)).bind fun x4 =>
  (H1.ldI .i64 ((H.push (.cells [.int .i64 a0_0, .int .i64 a0_1] false)).n) (0 + 1)).bind fun x5 =>
  (r33 (w64 (x2 * x3)) (w64 (x4 * x5)) H0).bind fun p6 =>
  (H1.sts (((H.push (.cells [.int .i64 a0_0, .int .i64 a0_1] false)).push (.cells [.int .i64 a1_0, .int .i64 a1_1] false)).n) 0 [.int .i64 p6.1.1, .int .i64 p6.1.2]).bind fun H7 =>
  (H7.ldI .i64 (((H.push (.cells [.int .i64 a0_0, .int .i64 a0_1] false)).push (.cells [.int .i64 a1_0, .int .i64 a1_1] false)).n) 0).bind fun x8 =>
  (H7.ldI .i64 (((H.push (.cells [.int .i64 a0_0, .int .i64 a0_1] false)).push (.cells [.int .i64 a1_0, .int .i64 a1_1] false)).n) (0 + 1)).bind fun x9 =>
  some ((x8, x9), H7)
/- 29 congou/congouref05.along -/
def ret29 : Int × Int × Bool → AV := fun r => .tup [.agg [.int .i64 r.1, .int .i64 r.2.1], .bool r.2.2]
noncomputable def r29_j1 (kt0 : Nat → Nat → Nat → Nat → Nat → Bool → Sl → Int → Int → Hp → Option ((Int × Int × Bool) × Hp)) (v1 : Nat) (v2 : Nat) (v3 : Nat) (v4 : Nat) (v5 : Nat) (v6 : Bool) (v7 : Nat) (v8 : Sl) (v9 : Int) (v10 : Int) (v11 : Bool) (H : Hp) : Option ((Int × Int × Bool) × Hp) :=
  if v11 = true then
    ((H.ldI .i64 v7 0).bind fun x2 =>
    (H.ldI .i64 v7 (0 + 1)).bind fun x3 =>
    (H.sts v5 0 [.int .i64 x2, .int .i64 x3]).bind fun H4 =>
    kt0 v1 v2 v3 v4 v5 true v8 v9 (w64 (v10 + 1)) H4)
  else
    (kt0 v1 v2 v3 v4 v5 v6 v8 v9 (w64 (v10 + 1)) H)
noncomputable def r29_l0 : Nat → Nat → Nat → Nat → Nat → Nat → Bool → Sl → Int → Int → Hp → Option ((Int × Int × Bool) × Hp)
  | 0, _, _, _, _, _, _, _, _, _, _ => none
  | k_ + 1, v1, v2, v3, v4, v5, v6, v7, v8, v9, H => if v9 < v8 then
    (ck ((0 : Int) ≤ v9 ∧ v9 < (v7.len : Int)) (
    (H.ldI .i64 v7.b (v7.o + (v9 : Int).toNat * 3)).bind fun x3 =>
    (H.ldI .i64 v7.b ((v7.o + (v9 : Int).toNat * 3) + 1)).bind fun x4 =>
    (H.ldI .i64 v7.b ((v7.o + (v9 : Int).toNat * 3) + 2)).bind fun x5 =>
    ((H.push (.cells [.int .i64 0, .int .i64 0, .int .i64 0] false)).sts H.n 0 [.int .i64 x3, .int .i64 x4, .int .i64 x5]).bind fun H6 =>
    (H6.ldI .i64 H.n (0 + (0 : Int).toNat * 1)).bind fun x7 =>
    (r30 x7 H0).bind fun p8 =>
    (H6.ldI .i64 v2 0).bind fun x9 =>
    (H6.ldI .i64 v2 (0 + 1)).bind fun x10 =>
    (r36 p8.1.1 p8.1.2 x9 x10 H0).bind fun p11 =>
    (H6.ldI .i64 H.n (0 + (1 : Int).toNat * 1)).bind fun x12 =>
    (r30 x12 H0).bind fun p13 =>
    (H6.ldI .i64 v3 0).bind fun x14 =>
    (H6.ldI .i64 v3 (0 + 1)).bind fun x15 =>
    (r36 p13.1.1 p13.1.2 x14 x15 H0).bind fun p16 =>
    (r32 p11.1.1 p11.1.2 p16.1.1 p16.1.2 H0).bind fun p17 =>
    ((H6.push (.cells [.int .i64 0, .int .i64 0] false)).sts H6.n 0 [.int .i64 p17.1.1, .int .i64 p17.1.2]).bind fun H18 =>
    (H18.ldI .i64 H6.n (0 + 0)).bind fun x19 =>
    if x19 ≤ 0 then
      (r29_l0 k_ v1 v2 v3 v4 v5 v6 v7 v8 (w64 (v9 + 1)) H18)
    else
      ((H18.ldI .i64 H.n (0 + (2 : Int).toNat * 1)).bind fun x21 =>
      (r30 x21 H0).bind fun p22 =>
      (H18.ldI .i64 H.n (0 + (0 : Int).toNat * 1)).bind fun x23 =>
      (r30 x23 H0).bind fun p24 =>
      (H18.ldI .i64 v1 (0 + 0)).bind fun x25 =>
      (H18.ldI .i64 v1 ((0 + 0) + 1)).bind fun x26 =>
      (r36 p24.1.1 p24.1.2 x25 x26 H0).bind fun p27 =>
      (H18.ldI .i64 H.n (0 + (1 : Int).toNat * 1)).bind fun x28 =>
      (r30 x28 H0).bind fun p29 =>
      (H18.ldI .i64 v1 (0 + 2)).bind fun x30 =>
      (H18.ldI .i64 v1 ((0 + 2) + 1)).bind fun x31 =>
      (r36 p29.1.1 p29.1.2 x30 x31 H0).bind fun p32 =>
      (r32 p27.1.1 p27.1.2 p32.1.1 p32.1.2 H0).bind fun p33 =>
      (r35 p22.1.1 p22.1.2 p33.1.1 p33.1.2 H0).bind fun p34 =>
      ((H18.push (.cells [.int .i64 0, .int .i64 0] false)).sts H18.n 0 [.int .i64 p34.1.1, .int .i64 p34.1.2]).bind fun H35 =>
      (H35.ldI .i64 H18.n 0).bind fun x36 =>
      (H35.ldI .i64 H18.n (0 + 1)).bind fun x37 =>
      (H35.ldI .i64 H6.n (0 + 1)).bind fun x38 =>
      (H35.ldI .i64 H6.n (0 + 0)).bind fun x39 =>
      (r33 x38 x39 H0).bind fun p40 =>
      (r36 x36 x37 p40.1.1 p40.1.2 H0).bind fun p41 =>
      ((H35.push (.cells [.int .i64 0, .int .i64 0] false)).sts H35.n 0 [.int .i64 p41.1.1, .int .i64 p41.1.2]).bind fun H42 =>
      if v6 = true then
        ((H42.ldI .i64 H35.n 0).bind fun x44 =>
        (H42.ldI .i64 H35.n (0 + 1)).bind fun x45 =>
        (H42.ldI .i64 v5 0).bind fun x46 =>
        (H42.ldI .i64 v5 (0 + 1)).bind fun x47 =>
        (r34 x44 x45 x46 x47 H0).bind fun p48 =>
        r29_j1 (fun v1_ v2_ v3_ v4_ v5_ v6_ v7_ v8_ v9_ H_ => r29_l0 k_ v1_ v2_ v3_ v4_ v5_ v6_ v7_ v8_ v9_ H_) v1 v2 v3 v4 v5 true H35.n v7 v8 v9 p48.1 H42)
      else
        (r29_j1 (fun v1_ v2_ v3_ v4_ v5_ v6_ v7_ v8_ v9_ H_ => r29_l0 k_ v1_ v2_ v3_ v4_ v5_ v6_ v7_ v8_ v9_ H_) v1 v2 v3 v4 v5 false H35.n v7 v8 v9 true H42))))
  else
    ((H.ldI .i64 v5 0).bind fun x49 =>
    (H.ldI .i64 v5 (0 + 1)).bind fun x50 =>
    (H.sts v4 0 [.int .i64 x49, .int .i64 x50]).bind fun H51 =>
    (H51.ldI .i64 v4 0).bind fun x52 =>
    (H51.ldI .i64 v4 (0 + 1)).bind fun x53 =>
    some ((x52, x53, v6), H51))
noncomputable def r29 (a0 : Sl) (a1_0 : Int) (a1_1 : Int) (a1_2 : Int) (a1_3 : Int) (a2_0 : Int) (a2_1 : Int) (a3_0 : Int) (a3_1 : Int) (H : Hp) : Option ((Int × Int × Bool) × Hp) :=
  lt ((((H.push (.cells [.int .i64 a1_0, .int .i64 a1_1, .int .i64 a1_2, .int .i64 a1_3] false)).push (.cells [.int .i64 a2_0, .int .i64 a2_1] false)).push (.cells [.int .i64 a3_0, .int .i64 a3_1] false)).push (.cells [.int .i64 0, .int .i64 0] false)) fun H1 =>
  lt (H1.push (.cells [.int .i64 0, .int .i64 0] false)) fun H2 =>
  (r48 a0 H2).bind fun p3 =>
  r29_l0 FUEL H.n ((H.push (.cells [.int .i64 a1_0, .int .i64 a1_1, .int .i64 a1_2, .int .i64 a1_3] false)).n) (((H.push (.cells [.int .i64 a1_0, .int .i64 a1_1, .int .i64 a1_2, .int .i64 a1_3] false)).push (.cells [.int .i64 a2_0, .int .i64 a2_1] false)).n) ((((H.push (.cells [.int .i64 a1_0, .int .i64 a1_1, .int .i64 a1_2, .int .i64 a1_3] false)).push (.cells [.int .i64 a2_0, .int .i64 a2_1] false)).push (.cells [.int .i64 a3_0, .int .i64 a3_1] false)).n) H1.n false p3.1 (p3.1.len : Int) 0 p3.2
/- 10 congou/congouref05.Room -/
def ret10 : Bool → AV := fun r => .bool r
noncomputable def r10 (a0 : Sl) (a1_0 : Int) (a1_1 : Int) (H : Hp) : Option (Bool × Hp) :=
  lt (H.push (.cells [.int .i64 a1_0, .int .i64 a1_1] false)) fun H1 =>
  (H1.ldI .i64 H.n 0).bind fun x2 =>
  (H1.ldI .i64 H.n (0 + 1)).bind fun x3 =>
  (r28 x2 x3 H0).bind fun p4 =>
  (r27 a0 p4.1.1 p4.1.2.1 p4.1.2.2.1 p4.1.2.2.2 H1).bind fun p5 =>
  if p5.1 = true then
    ((p5.2.ldI .i64 H.n 0).bind fun x7 =>
    (p5.2.ldI .i64 H.n (0 + 1)).bind fun x8 =>
    (r28 x7 x8 H0).bind fun p9 =>
    (r30 1 H0).bind fun p10 =>
    (r30 1 H0).bind fun p11 =>
    (r29 a0 p9.1.1 p9.1.2.1 p9.1.2.2.1 p9.1.2.2.2 p10.1.1 p10.1.2 p11.1.1 p11.1.2 p5.2).bind fun p12 =>
    ((p12.2.push (.cells [.int .i64 0, .int .i64 0] false)).sts p12.2.n 0 [.int .i64 p12.1.1, .int .i64 p12.1.2.1]).bind fun H13 =>
    (H13.ldI .i64 p12.2.n (0 + 0)).bind fun x14 =>
    some ((decide (0 < x14)), H13))
  else
    (some (false, p5.2))
end Go.Lt.P5
