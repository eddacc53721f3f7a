/- PRINTED BY A PROGRAM OF OURS: what each function that 'DealsCorners' reaches computes on the abstract heap, and that the translated code does just that. Nothing is asked of the input. -/
import Derived.Test.YtficeemoekikdaaG7R0
set_option linter.unusedVariables false
set_option linter.unusedSimpArgs false
set_option maxRecDepth 100000
set_option maxHeartbeats 4000000
namespace Go.Lt.P5
open Go Go.Lt Go.Proofs
/- 54 (congou/deals.offers).lines -/
def ret54 : Sl → AV := fun r => .sl r
noncomputable def r54_l0 (app : App) : Nat → Sl → Sl → Int → Hp → Option (Sl × Hp)
  | 0, _, _, _, _ => none
  | k_ + 1, v1, v2, v3, H => if v3 < (v1.len : Int) then
    (ck ((0 : Int) ≤ (w64 (v3 - 1)) ∧ (w64 (v3 - 1)) < (v1.len : Int)) (
    (H.ldI .i64 v1.b ((v1.o + (w64 (v3 - 1) : Int).toNat * 2) + (1 : Int).toNat * 1)).bind fun x3 =>
    ck ((0 : Int) ≤ v3 ∧ v3 < (v1.len : Int)) (
    (H.ldI .i64 v1.b ((v1.o + (v3 : Int).toNat * 2) + (1 : Int).toNat * 1)).bind fun x5 =>
    ck ((0 : Int) ≤ v3 ∧ v3 < (v1.len : Int)) (
    (H.ldI .i64 v1.b ((v1.o + (v3 : Int).toNat * 2) + (0 : Int).toNat * 1)).bind fun x7 =>
    ck ((0 : Int) ≤ (w64 (v3 - 1)) ∧ (w64 (v3 - 1)) < (v1.len : Int)) (
    (H.ldI .i64 v1.b ((v1.o + (w64 (v3 - 1) : Int).toNat * 2) + (0 : Int).toNat * 1)).bind fun x9 =>
    ck ((0 : Int) ≤ v3 ∧ v3 < (v1.len : Int)) (
    (H.ldI .i64 v1.b ((v1.o + (v3 : Int).toNat * 2) + (0 : Int).toNat * 1)).bind fun x11 =>
    ck ((0 : Int) ≤ v3 ∧ v3 < (v1.len : Int)) (
    (H.ldI .i64 v1.b ((v1.o + (v3 : Int).toNat * 2) + (1 : Int).toNat * 1)).bind fun x13 =>
    (H.apN 3 v2 [.int .i64 (w64 (x3 - x5)), .int .i64 (w64 (x7 - x9)), .int .i64 (w64 ((w64 ((w64 (x3 - x5)) * x11)) + (w64 ((w64 (x7 - x9)) * x13))))] 1).bind fun x14 =>
    r54_l0 app k_ v1 x14.1 (w64 (v3 + 1)) x14.2)))))))
  else
    (some (v2, H))
noncomputable def r54 (app : App) (a0 : Sl) (H : Hp) : Option (Sl × Hp) :=
  (r56 app a0 H).bind fun p1 =>
  ck ((0 : Int) ≤ 0 ∧ 0 < (p1.1.len : Int)) (
  (p1.2.ldI .i64 p1.1.b ((p1.1.o + (0 : Int).toNat * 2) + (1 : Int).toNat * 1)).bind fun x3 =>
  ck ((0 : Int) ≤ (w64 ((p1.1.len : Int) - 1)) ∧ (w64 ((p1.1.len : Int) - 1)) < (p1.1.len : Int)) (
  (p1.2.ldI .i64 p1.1.b ((p1.1.o + (w64 ((p1.1.len : Int) - 1) : Int).toNat * 2) + (0 : Int).toNat * 1)).bind fun x5 =>
  lt (p1.2.push (.cells [.int .i64 0, .int .i64 1, .int .i64 x3, .int .i64 1, .int .i64 0, .int .i64 x5] false)) fun H6 =>
  r54_l0 app FUEL p1.1 ⟨false, p1.2.n, 0, 2, 2, 0⟩ 1 H6))
/- 78 (congou/deals.line).rest -/
def ret78 : Int → AV := fun r => .int .i64 r
noncomputable def r78 (a0_0 : Int) (a0_1 : Int) (a0_2 : Int) (a1_0 : Int) (a1_1 : Int) (H : Hp) : Option (Int × Hp) :=
  lt ((H.push (.cells [.int .i64 a0_0, .int .i64 a0_1, .int .i64 a0_2] false)).push (.cells [.int .i64 a1_0, .int .i64 a1_1] false)) fun H1 =>
  (H1.ldI .i64 H.n (0 + 2)).bind fun x2 =>
  (H1.ldI .i64 H.n (0 + 0)).bind fun x3 =>
  (H1.ldI .i64 ((H.push (.cells [.int .i64 a0_0, .int .i64 a0_1, .int .i64 a0_2] false)).n) (0 + (0 : Int).toNat * 1)).bind fun x4 =>
  (H1.ldI .i64 H.n (0 + 1)).bind fun x5 =>
  (H1.ldI .i64 ((H.push (.cells [.int .i64 a0_0, .int .i64 a0_1, .int .i64 a0_2] false)).n) (0 + (1 : Int).toNat * 1)).bind fun x6 =>
  some (w64 ((w64 (x2 - (w64 (x3 * x4)))) - (w64 (x5 * x6))), H1)
/- 64 congou/deals.read -/
def ret64 : Sl × Int → AV := fun r => .tup [.sl r.1, .int .i64 r.2]
noncomputable def r64_l0 (app : App) : Nat → Nat → Sl → Sl → Int → Int → Hp → Option ((Sl × Int) × Hp)
  | 0, _, _, _, _, _, _ => none
  | k_ + 1, v1, v2, v3, v4, v5, H => if v5 < v4 then
    (ck ((0 : Int) ≤ v5 ∧ v5 < (v3.len : Int)) (
    (H.ldI .i64 v3.b (v3.o + (v5 : Int).toNat * 3)).bind fun x3 =>
    (H.ldI .i64 v3.b ((v3.o + (v5 : Int).toNat * 3) + 1)).bind fun x4 =>
    (H.ldI .i64 v3.b ((v3.o + (v5 : Int).toNat * 3) + 2)).bind fun x5 =>
    ((H.push (.cells [.int .i64 0, .int .i64 0, .int .i64 0] false)).sts H.n 0 [.int .i64 x3, .int .i64 x4, .int .i64 x5]).bind fun H6 =>
    (H6.ldI .i64 H.n 0).bind fun x7 =>
    (H6.ldI .i64 H.n (0 + 1)).bind fun x8 =>
    (H6.ldI .i64 H.n (0 + 2)).bind fun x9 =>
    (H6.ldI .i64 v1 0).bind fun x10 =>
    (H6.ldI .i64 v1 (0 + 1)).bind fun x11 =>
    (r78 x7 x8 x9 x10 x11 H0).bind fun p12 =>
    if p12.1 ≤ 0 then
      (some ((⟨true, 0, 0, 0, 0, 0⟩, 4), H6))
    else
      (r64_l0 app k_ v1 v2 v3 v4 (w64 (v5 + 1)) H6)))
  else
    (some ((v2, 0), H))
noncomputable def r64_j1 (app : App) (v1 : Nat) (v2 : Sl) (v3 : Bool) (H : Hp) : Option ((Sl × Int) × Hp) :=
  if v3 = true then
    (some ((⟨true, 0, 0, 0, 0, 0⟩, 2), H))
  else
    ((r54 app v2 H).bind fun p2 =>
    r64_l0 app FUEL v1 v2 p2.1 (p2.1.len : Int) 0 p2.2)
noncomputable def r64 (app : App) (a0 : Sl) (a1_0 : Int) (a1_1 : Int) (H : Hp) : Option ((Sl × Int) × Hp) :=
  lt (H.push (.cells [.int .i64 a1_0, .int .i64 a1_1] false)) fun H1 =>
  (r52 a0 H1).bind fun p2 =>
  if p2.1 = true then
    ((p2.2.ldI .i64 H.n (0 + (0 : Int).toNat * 1)).bind fun x4 =>
    (r70 x4 H0).bind fun p5 =>
    if p5.1 = true then
      ((p2.2.ldI .i64 H.n (0 + (1 : Int).toNat * 1)).bind fun x7 =>
      (r70 x7 H0).bind fun p8 =>
      r64_j1 app H.n a0 (!p8.1) p2.2)
    else
      (r64_j1 app H.n a0 true p2.2))
  else
    (r64_j1 app H.n a0 true p2.2)
/- 68 congou/deals.compare -/
def ret68 : Int → AV := fun r => .int .i64 r
noncomputable def r68 (a0_0 : Int) (a0_1 : Int) (a1_0 : Int) (a1_1 : Int) (H : Hp) : Option (Int × Hp) :=
  lt ((H.push (.cells [.int .i64 a0_0, .int .i64 a0_1] false)).push (.cells [.int .i64 a1_0, .int .i64 a1_1] false)) fun H1 =>
  (H1.ldI .i64 H.n (0 + 0)).bind fun x2 =>
  (H1.ldI .i64 ((H.push (.cells [.int .i64 a0_0, .int .i64 a0_1] false)).n) (0 + 1)).bind fun x3 =>
  (H1.ldI .i64 ((H.push (.cells [.int .i64 a0_0, .int .i64 a0_1] false)).n) (0 + 0)).bind fun x4 =>
  (H1.ldI .i64 H.n (0 + 1)).bind fun x5 =>
  (r80 (w64 (x2 * x3)) (w64 (x4 * x5)) H0).bind fun p6 =>
  some (p6.1, H1)
/- 79 congou/deals.along -/
def ret79 : Int × Int → AV := fun r => .agg [.int .i64 r.1, .int .i64 r.2]
noncomputable def r79 (a0 : Int) (a1_0 : Int) (a1_1 : Int) (a2_0 : Int) (a2_1 : Int) (H : Hp) : Option ((Int × Int) × Hp) :=
  lt (((H.push (.cells [.int .i64 a1_0, .int .i64 a1_1] false)).push (.cells [.int .i64 a2_0, .int .i64 a2_1] false)).push (.cells [.int .i64 0, .int .i64 0] false)) fun H1 =>
  (H1.ldI .i64 H.n (0 + 0)).bind fun x2 =>
  (H1.ldI .i64 ((H.push (.cells [.int .i64 a1_0, .int .i64 a1_1] false)).n) (0 + 0)).bind fun x3 =>
  (H1.ldI .i64 H.n (0 + 1)).bind fun x4 =>
  (H1.ldI .i64 ((H.push (.cells [.int .i64 a1_0, .int .i64 a1_1] false)).n) (0 + 1)).bind fun x5 =>
  (r48 (w64 (x2 * x3)) (w64 (x4 * x5)) H0).bind fun p6 =>
  ((H1.push (.cells [.int .i64 0, .int .i64 0] false)).sts H1.n 0 [.int .i64 p6.1.1, .int .i64 p6.1.2]).bind fun H7 =>
  (H7.ldI .i64 H1.n (0 + 1)).bind fun x8 =>
  (H7.ldI .i64 H1.n (0 + 0)).bind fun x9 =>
  (H7.ldI .i64 H1.n (0 + 1)).bind fun x10 =>
  (r48 (w64 ((w64 (a0 * x8)) + x9)) x10 H0).bind fun p11 =>
  (H7.sts (((H.push (.cells [.int .i64 a1_0, .int .i64 a1_1] false)).push (.cells [.int .i64 a2_0, .int .i64 a2_1] false)).n) 0 [.int .i64 p11.1.1, .int .i64 p11.1.2]).bind fun H12 =>
  (H12.ldI .i64 (((H.push (.cells [.int .i64 a1_0, .int .i64 a1_1] false)).push (.cells [.int .i64 a2_0, .int .i64 a2_1] false)).n) 0).bind fun x13 =>
  (H12.ldI .i64 (((H.push (.cells [.int .i64 a1_0, .int .i64 a1_1] false)).push (.cells [.int .i64 a2_0, .int .i64 a2_1] false)).n) (0 + 1)).bind fun x14 =>
  some ((x13, x14), H12)
/- 65 (congou/deals.offers).far -/
def ret65 : Int × Int × Int × Int → AV := fun r => .agg [.int .i64 r.1, .int .i64 r.2.1, .int .i64 r.2.2.1, .int .i64 r.2.2.2]
noncomputable def r65_j1 (app : App) (kt0 : Nat → Nat → Nat → Nat → Nat → Sl → Int → Int → Hp → Option ((Int × Int × Int × Int) × Hp)) (v1 : Nat) (v2 : Nat) (v3 : Nat) (v4 : Nat) (v5 : Nat) (v6 : Nat) (v7 : Sl) (v8 : Int) (v9 : Int) (v10 : Bool) (H : Hp) : Option ((Int × Int × Int × Int) × Hp) :=
  if v10 = true then
    ((H.ldI .i64 v6 0).bind fun x2 =>
    (H.ldI .i64 v6 (0 + 1)).bind fun x3 =>
    (H.sts v5 0 [.int .i64 x2, .int .i64 x3]).bind fun H4 =>
    kt0 v1 v2 v3 v4 v5 v7 v8 (w64 (v9 + 1)) H4)
  else
    (kt0 v1 v2 v3 v4 v5 v7 v8 (w64 (v9 + 1)) H)
noncomputable def r65_l0 (app : App) : Nat → Nat → Nat → Nat → Nat → Nat → Sl → Int → Int → Hp → Option ((Int × Int × Int × Int) × Hp)
  | 0, _, _, _, _, _, _, _, _, _ => none
  | k_ + 1, v1, v2, v3, v4, v5, v6, v7, v8, H => if v8 < v7 then
    (ck ((0 : Int) ≤ v8 ∧ v8 < (v6.len : Int)) (
    (H.ldI .i64 v6.b (v6.o + (v8 : Int).toNat * 3)).bind fun x3 =>
    (H.ldI .i64 v6.b ((v6.o + (v8 : Int).toNat * 3) + 1)).bind fun x4 =>
    (H.ldI .i64 v6.b ((v6.o + (v8 : Int).toNat * 3) + 2)).bind fun x5 =>
    ((H.push (.cells [.int .i64 0, .int .i64 0, .int .i64 0] false)).sts H.n 0 [.int .i64 x3, .int .i64 x4, .int .i64 x5]).bind fun H6 =>
    (H6.ldI .i64 H.n (0 + 0)).bind fun x7 =>
    (H6.ldI .i64 v2 (0 + 0)).bind fun x8 =>
    (H6.ldI .i64 v3 (0 + 1)).bind fun x9 =>
    (H6.ldI .i64 H.n (0 + 1)).bind fun x10 =>
    (H6.ldI .i64 v3 (0 + 0)).bind fun x11 =>
    (H6.ldI .i64 v2 (0 + 1)).bind fun x12 =>
    if (w64 ((w64 ((w64 (x7 * x8)) * x9)) + (w64 ((w64 (x10 * x11)) * x12)))) = 0 then
      (r65_l0 app k_ v1 v2 v3 v4 v5 v6 v7 (w64 (v8 + 1)) H6)
    else
      ((H6.ldI .i64 H.n 0).bind fun x14 =>
      (H6.ldI .i64 H.n (0 + 1)).bind fun x15 =>
      (H6.ldI .i64 H.n (0 + 2)).bind fun x16 =>
      (H6.ldI .i64 v1 0).bind fun x17 =>
      (H6.ldI .i64 v1 (0 + 1)).bind fun x18 =>
      (r78 x14 x15 x16 x17 x18 H0).bind fun p19 =>
      (H6.ldI .i64 v2 (0 + 1)).bind fun x20 =>
      (H6.ldI .i64 v3 (0 + 1)).bind fun x21 =>
      (r48 (w64 ((w64 (p19.1 * x20)) * x21)) (w64 ((w64 ((w64 (x7 * x8)) * x9)) + (w64 ((w64 (x10 * x11)) * x12)))) H0).bind fun p22 =>
      ((H6.push (.cells [.int .i64 0, .int .i64 0] false)).sts H6.n 0 [.int .i64 p22.1.1, .int .i64 p22.1.2]).bind fun H23 =>
      (H23.ldI .i64 v5 (0 + 1)).bind fun x24 =>
      if x24 = 0 then
        (r65_j1 app (fun v1_ v2_ v3_ v4_ v5_ v6_ v7_ v8_ H_ => r65_l0 app k_ v1_ v2_ v3_ v4_ v5_ v6_ v7_ v8_ H_) v1 v2 v3 v4 v5 H6.n v6 v7 v8 true H23)
      else
        ((H23.ldI .i64 H6.n 0).bind fun x26 =>
        (H23.ldI .i64 H6.n (0 + 1)).bind fun x27 =>
        (H23.ldI .i64 v5 0).bind fun x28 =>
        (H23.ldI .i64 v5 (0 + 1)).bind fun x29 =>
        (r68 x26 x27 x28 x29 H0).bind fun p30 =>
        r65_j1 app (fun v1_ v2_ v3_ v4_ v5_ v6_ v7_ v8_ H_ => r65_l0 app k_ v1_ v2_ v3_ v4_ v5_ v6_ v7_ v8_ H_) v1 v2 v3 v4 v5 H6.n v6 v7 v8 (decide (p30.1 < 0)) H23))))
  else
    ((H.ldI .i64 v1 (0 + (0 : Int).toNat * 1)).bind fun x31 =>
    (H.ldI .i64 v5 0).bind fun x32 =>
    (H.ldI .i64 v5 (0 + 1)).bind fun x33 =>
    (H.ldI .i64 v2 0).bind fun x34 =>
    (H.ldI .i64 v2 (0 + 1)).bind fun x35 =>
    (r79 x31 x32 x33 x34 x35 H0).bind fun p36 =>
    (H.ldI .i64 v1 (0 + (1 : Int).toNat * 1)).bind fun x37 =>
    (H.ldI .i64 v5 0).bind fun x38 =>
    (H.ldI .i64 v5 (0 + 1)).bind fun x39 =>
    (H.ldI .i64 v3 0).bind fun x40 =>
    (H.ldI .i64 v3 (0 + 1)).bind fun x41 =>
    (r79 x37 x38 x39 x40 x41 H0).bind fun p42 =>
    (H.sts v4 0 [.int .i64 p36.1.1, .int .i64 p36.1.2, .int .i64 p42.1.1, .int .i64 p42.1.2]).bind fun H43 =>
    (H43.ldI .i64 v4 0).bind fun x44 =>
    (H43.ldI .i64 v4 (0 + 1)).bind fun x45 =>
    (H43.ldI .i64 v4 (0 + 2)).bind fun x46 =>
    (H43.ldI .i64 v4 (0 + 3)).bind fun x47 =>
    some ((x44, x45, x46, x47), H43))
noncomputable def r65 (app : App) (a0 : Sl) (a1_0 : Int) (a1_1 : Int) (a2_0 : Int) (a2_1 : Int) (a3_0 : Int) (a3_1 : Int) (H : Hp) : Option ((Int × Int × Int × Int) × Hp) :=
  lt ((((H.push (.cells [.int .i64 a1_0, .int .i64 a1_1] false)).push (.cells [.int .i64 a2_0, .int .i64 a2_1] false)).push (.cells [.int .i64 a3_0, .int .i64 a3_1] false)).push (.cells [.int .i64 0, .int .i64 0, .int .i64 0, .int .i64 0] false)) fun H1 =>
  ((H1.push (.cells [.int .i64 0, .int .i64 0] false)).sts H1.n 0 [.int .i64 0, .int .i64 0]).bind fun H2 =>
  (r54 app a0 H2).bind fun p3 =>
  r65_l0 app FUEL H.n ((H.push (.cells [.int .i64 a1_0, .int .i64 a1_1] false)).n) (((H.push (.cells [.int .i64 a1_0, .int .i64 a1_1] false)).push (.cells [.int .i64 a2_0, .int .i64 a2_1] false)).n) ((((H.push (.cells [.int .i64 a1_0, .int .i64 a1_1] false)).push (.cells [.int .i64 a2_0, .int .i64 a2_1] false)).push (.cells [.int .i64 a3_0, .int .i64 a3_1] false)).n) H1.n p3.1 (p3.1.len : Int) 0 p3.2
/- 40 congou/deals.Halves -/
def ret40 : Int × Int × Int × Int × Int → AV := fun r => .tup [.agg [.int .i64 r.1, .int .i64 r.2.1, .int .i64 r.2.2.1, .int .i64 r.2.2.2.1], .int .i64 r.2.2.2.2]
noncomputable def r40 (app : App) (a0 : Sl) (a1_0 : Int) (a1_1 : Int) (H : Hp) : Option ((Int × Int × Int × Int × Int) × Hp) :=
  lt ((H.push (.cells [.int .i64 a1_0, .int .i64 a1_1] false)).push (.cells [.int .i64 0, .int .i64 0, .int .i64 0, .int .i64 0] false)) fun H1 =>
  (H1.ldI .i64 H.n 0).bind fun x2 =>
  (H1.ldI .i64 H.n (0 + 1)).bind fun x3 =>
  (r64 app a0 x2 x3 H1).bind fun p4 =>
  if p4.1.2 ≠ 0 then
    ((p4.2.sts ((H.push (.cells [.int .i64 a1_0, .int .i64 a1_1] false)).n) 0 [.int .i64 0, .int .i64 0, .int .i64 0, .int .i64 0]).bind fun H6 =>
    (H6.ldI .i64 ((H.push (.cells [.int .i64 a1_0, .int .i64 a1_1] false)).n) 0).bind fun x7 =>
    (H6.ldI .i64 ((H.push (.cells [.int .i64 a1_0, .int .i64 a1_1] false)).n) (0 + 1)).bind fun x8 =>
    (H6.ldI .i64 ((H.push (.cells [.int .i64 a1_0, .int .i64 a1_1] false)).n) (0 + 2)).bind fun x9 =>
    (H6.ldI .i64 ((H.push (.cells [.int .i64 a1_0, .int .i64 a1_1] false)).n) (0 + 3)).bind fun x10 =>
    some ((x7, x8, x9, x10, p4.1.2), H6))
  else
    ((r48 1 1 H0).bind fun p11 =>
    ((p4.2.push (.cells [.int .i64 0, .int .i64 0] false)).sts p4.2.n 0 [.int .i64 p11.1.1, .int .i64 p11.1.2]).bind fun H12 =>
    (H12.ldI .i64 H.n 0).bind fun x13 =>
    (H12.ldI .i64 H.n (0 + 1)).bind fun x14 =>
    (H12.ldI .i64 p4.2.n 0).bind fun x15 =>
    (H12.ldI .i64 p4.2.n (0 + 1)).bind fun x16 =>
    (H12.ldI .i64 p4.2.n 0).bind fun x17 =>
    (H12.ldI .i64 p4.2.n (0 + 1)).bind fun x18 =>
    (r65 app p4.1.1 x13 x14 x15 x16 x17 x18 H12).bind fun p19 =>
    (p19.2.sts ((H.push (.cells [.int .i64 a1_0, .int .i64 a1_1] false)).n) 0 [.int .i64 p19.1.1, .int .i64 p19.1.2.1, .int .i64 p19.1.2.2.1, .int .i64 p19.1.2.2.2]).bind fun H20 =>
    (H20.ldI .i64 ((H.push (.cells [.int .i64 a1_0, .int .i64 a1_1] false)).n) 0).bind fun x21 =>
    (H20.ldI .i64 ((H.push (.cells [.int .i64 a1_0, .int .i64 a1_1] false)).n) (0 + 1)).bind fun x22 =>
    (H20.ldI .i64 ((H.push (.cells [.int .i64 a1_0, .int .i64 a1_1] false)).n) (0 + 2)).bind fun x23 =>
    (H20.ldI .i64 ((H.push (.cells [.int .i64 a1_0, .int .i64 a1_1] false)).n) (0 + 3)).bind fun x24 =>
    some ((x21, x22, x23, x24, 0), H20))
/- 19 congou/congoulaw05.awake -/
def ret19 : Bool → AV := fun r => .bool r
noncomputable def r19 (app : App) (H : Hp) : Option (Bool × Hp) :=
  (r40 app ⟨false, H.n, 0, 2, 2, 0⟩ 0 0 (H.push (.cells [.int .i64 0, .int .i64 10, .int .i64 10, .int .i64 0] false))).bind fun p1 =>
  ((p1.2.push (.cells [.int .i64 0, .int .i64 0, .int .i64 0, .int .i64 0] false)).sts p1.2.n 0 [.int .i64 p1.1.1, .int .i64 p1.1.2.1, .int .i64 p1.1.2.2.1, .int .i64 p1.1.2.2.2.1]).bind fun H2 =>
  if p1.1.2.2.2.2 = 0 then
    ((H2.ldI .i64 p1.2.n 0).bind fun x4 =>
    (H2.ldI .i64 p1.2.n (0 + 1)).bind fun x5 =>
    (H2.ldI .i64 p1.2.n (0 + 2)).bind fun x6 =>
    (H2.ldI .i64 p1.2.n (0 + 3)).bind fun x7 =>
    some ((((x4 == 5) && (x5 == 1)) && ((x6 == 5) && (x7 == 1))), H2))
  else
    (some (false, H2))
/- 23 congou/deals.Is -/
def ret23 : Bool × Int → AV := fun r => .tup [.bool r.1, .int .i64 r.2]
noncomputable def r23_j1 (app : App) (kt0 : Sl → Nat → Sl → Int → Int → Hp → Option ((Bool × Int) × Hp)) (v1 : Sl) (v2 : Nat) (v3 : Sl) (v4 : Int) (v5 : Int) (v6 : Bool) (H : Hp) : Option ((Bool × Int) × Hp) :=
  if v6 = true then
    (some ((false, 2), H))
  else
    (kt0 v1 v2 v3 v4 (w64 (v5 + 1)) H)
noncomputable def r23_l2 (app : App) : Nat → Nat → Sl → Int → Int → Hp → Option ((Bool × Int) × Hp)
  | 0, _, _, _, _, _ => none
  | k_ + 1, v1, v2, v3, v4, H => if v4 < v3 then
    (ck ((0 : Int) ≤ v4 ∧ v4 < (v2.len : Int)) (
    (H.ldI .i64 v2.b (v2.o + (v4 : Int).toNat * 3)).bind fun x3 =>
    (H.ldI .i64 v2.b ((v2.o + (v4 : Int).toNat * 3) + 1)).bind fun x4 =>
    (H.ldI .i64 v2.b ((v2.o + (v4 : Int).toNat * 3) + 2)).bind fun x5 =>
    ((H.push (.cells [.int .i64 0, .int .i64 0, .int .i64 0] false)).sts H.n 0 [.int .i64 x3, .int .i64 x4, .int .i64 x5]).bind fun H6 =>
    (H6.ldI .i64 H.n (0 + 0)).bind fun x7 =>
    (H6.ldI .i64 v1 ((0 + 0) + 0)).bind fun x8 =>
    (H6.ldI .i64 v1 ((0 + 2) + 1)).bind fun x9 =>
    (H6.ldI .i64 H.n (0 + 1)).bind fun x10 =>
    (H6.ldI .i64 v1 ((0 + 2) + 0)).bind fun x11 =>
    (H6.ldI .i64 v1 ((0 + 0) + 1)).bind fun x12 =>
    (H6.ldI .i64 H.n (0 + 2)).bind fun x13 =>
    (H6.ldI .i64 v1 ((0 + 0) + 1)).bind fun x14 =>
    (H6.ldI .i64 v1 ((0 + 2) + 1)).bind fun x15 =>
    if (w64 ((w64 (x13 * x14)) * x15)) < (w64 ((w64 ((w64 (x7 * x8)) * x9)) + (w64 ((w64 (x10 * x11)) * x12)))) then
      (some ((false, 0), H6))
    else
      (r23_l2 app k_ v1 v2 v3 (w64 (v4 + 1)) H6)))
  else
    (some ((true, 0), H))
noncomputable def r23_l0 (app : App) : Nat → Sl → Nat → Sl → Int → Int → Hp → Option ((Bool × Int) × Hp)
  | 0, _, _, _, _, _, _ => none
  | k_ + 1, v1, v2, v3, v4, v5, H => if v5 < v4 then
    (ck ((0 : Int) ≤ v5 ∧ v5 < (v3.len : Int)) (
    (H.ldI .i64 v3.b (v3.o + (v5 : Int).toNat * 2)).bind fun x3 =>
    (H.ldI .i64 v3.b ((v3.o + (v5 : Int).toNat * 2) + 1)).bind fun x4 =>
    ((H.push (.cells [.int .i64 0, .int .i64 0] false)).sts H.n 0 [.int .i64 x3, .int .i64 x4]).bind fun H5 =>
    (H5.ldI .i64 H.n (0 + 1)).bind fun x6 =>
    if x6 < 1 then
      (r23_j1 app (fun v1_ v2_ v3_ v4_ v5_ H_ => r23_l0 app k_ v1_ v2_ v3_ v4_ v5_ H_) v1 v2 v3 v4 v5 true H5)
    else
      ((H5.ldI .i64 H.n (0 + 1)).bind fun x8 =>
      if 1000000 < x8 then
        (r23_j1 app (fun v1_ v2_ v3_ v4_ v5_ H_ => r23_l0 app k_ v1_ v2_ v3_ v4_ v5_ H_) v1 v2 v3 v4 v5 true H5)
      else
        ((H5.ldI .i64 H.n (0 + 0)).bind fun x10 =>
        if x10 < 0 then
          (r23_j1 app (fun v1_ v2_ v3_ v4_ v5_ H_ => r23_l0 app k_ v1_ v2_ v3_ v4_ v5_ H_) v1 v2 v3 v4 v5 true H5)
        else
          ((H5.ldI .i64 H.n (0 + 0)).bind fun x12 =>
          (H5.ldI .i64 H.n (0 + 1)).bind fun x13 =>
          if (w64 (30 * x13)) < x12 then
            (r23_j1 app (fun v1_ v2_ v3_ v4_ v5_ H_ => r23_l0 app k_ v1_ v2_ v3_ v4_ v5_ H_) v1 v2 v3 v4 v5 true H5)
          else
            ((H5.ldI .i64 H.n (0 + 0)).bind fun x15 =>
            (H5.ldI .i64 H.n (0 + 1)).bind fun x16 =>
            (r53 x15 x16 H0).bind fun p17 =>
            r23_j1 app (fun v1_ v2_ v3_ v4_ v5_ H_ => r23_l0 app k_ v1_ v2_ v3_ v4_ v5_ H_) v1 v2 v3 v4 v5 (decide (p17.1 ≠ 1)) H5))))))
  else
    ((r54 app v1 H).bind fun p18 =>
    r23_l2 app FUEL v2 p18.1 (p18.1.len : Int) 0 p18.2)
noncomputable def r23 (app : App) (a0 : Sl) (a1_0 : Int) (a1_1 : Int) (a1_2 : Int) (a1_3 : Int) (H : Hp) : Option ((Bool × Int) × Hp) :=
  lt (H.push (.cells [.int .i64 a1_0, .int .i64 a1_1, .int .i64 a1_2, .int .i64 a1_3] false)) fun H1 =>
  (r52 a0 H1).bind fun p2 =>
  if p2.1 = true then
    ((p2.2.ldI .i64 H.n (0 + 0)).bind fun x4 =>
    (p2.2.ldI .i64 H.n ((0 + 0) + 1)).bind fun x5 =>
    (p2.2.ldI .i64 H.n (0 + 2)).bind fun x6 =>
    (p2.2.ldI .i64 H.n ((0 + 2) + 1)).bind fun x7 =>
    lt (p2.2.push (.cells [.int .i64 x4, .int .i64 x5, .int .i64 x6, .int .i64 x7] false)) fun H8 =>
    r23_l0 app FUEL a0 H.n ⟨false, p2.2.n, 0, 2, 2, 0⟩ ((⟨false, p2.2.n, 0, 2, 2, 0⟩ : Sl).len : Int) 0 H8)
  else
    (some ((false, 2), p2.2))
/- 41 slices.Clone[[][2]int,[2]int] -/
def ret41 : Sl → AV := fun r => .sl r
noncomputable def r41 (a0 : Sl) (H : Hp) : Option (Sl × Hp) :=
  if a0.nil = true then
    (some (⟨true, 0, 0, 0, 0, 0⟩, H))
  else
    (((H.push (.cells [] false)).lds a0.b a0.o (a0.len * 2)).bind fun x2 =>
    ck (x2.all AV.one = true) (
    ((H.push (.cells [] false)).app 2 ⟨false, H.n, 0, 0, 0, 0⟩ x2 a0.len).bind fun x4 =>
    some (x4.1, x4.2)))
/- 24 congou/congoulaw05.list -/
def ret24 : Sl → AV := fun r => .sl r
noncomputable def r24 (a0 : Sl) (H : Hp) : Option (Sl × Hp) :=
  ck (((0 : Int) ≤ 0 ∧ 0 ≤ (if 11 < (a0.len : Int) then 11 else (a0.len : Int)) ∧ (if 11 < (a0.len : Int) then 11 else (a0.len : Int)) ≤ (a0.cap : Int)) ∧ (a0.opn = 0 ∨ a0.opn = 2)) (
  (r41 (a0.cut 2 (0 : Int).toNat ((if 11 < (a0.len : Int) then 11 else (a0.len : Int)) : Int).toNat) H).bind fun p2 =>
  some (p2.1, p2.2))
/- 44 congou/congouref05.Fallback -/
def ret44 : Bool → AV := fun r => .bool r
noncomputable def r44 (a0_0 : Int) (a0_1 : Int) (H : Hp) : Option (Bool × Hp) :=
  lt (H.push (.cells [.int .i64 a0_0, .int .i64 a0_1] false)) fun H1 =>
  (H1.ldI .i64 H.n (0 + (0 : Int).toNat * 1)).bind fun x2 =>
  if 0 ≤ x2 then
    ((H1.ldI .i64 H.n (0 + (0 : Int).toNat * 1)).bind fun x4 =>
    if x4 ≤ 30 then
      ((H1.ldI .i64 H.n (0 + (1 : Int).toNat * 1)).bind fun x6 =>
      if 0 ≤ x6 then
        ((H1.ldI .i64 H.n (0 + (1 : Int).toNat * 1)).bind fun x8 =>
        some ((decide (x8 ≤ 30)), H1))
      else
        (some (false, H1)))
    else
      (some (false, H1)))
  else
    (some (false, H1))
/- 26 congou/congouref05.Offers -/
def ret26 : Bool → AV := fun r => .bool r
noncomputable def r26_l1 (kt0 : Sl → Sl → Int → Int → Hp → Option (Bool × Hp)) : Nat → Sl → Nat → Sl → Int → Int → Sl → Int → Int → Hp → Option (Bool × Hp)
  | 0, _, _, _, _, _, _, _, _, _ => none
  | k_ + 1, v1, v2, v3, v4, v5, v6, v7, v8, H => if v8 < v7 then
    (ck ((0 : Int) ≤ v8 ∧ v8 < (v6.len : Int)) (
    (H.ldI .i64 v6.b (v6.o + (v8 : Int).toNat * 2)).bind fun x3 =>
    (H.ldI .i64 v6.b ((v6.o + (v8 : Int).toNat * 2) + 1)).bind fun x4 =>
    ((H.push (.cells [.int .i64 0, .int .i64 0] false)).sts H.n 0 [.int .i64 x3, .int .i64 x4]).bind fun H5 =>
    (H5.ldI .i64 v2 0).bind fun x6 =>
    (H5.ldI .i64 v2 (0 + 1)).bind fun x7 =>
    (H5.ldI .i64 H.n 0).bind fun x8 =>
    (H5.ldI .i64 H.n (0 + 1)).bind fun x9 =>
    if (AV.keqs [.int .i64 x6, .int .i64 x7] [.int .i64 x8, .int .i64 x9]) = true then
      (some (false, H5))
    else
      (r26_l1 kt0 k_ v1 v2 v3 v4 v5 v6 v7 (w64 (v8 + 1)) H5)))
  else
    (kt0 v1 v3 v4 (w64 (v5 + 1)) H)
noncomputable def r26_l0 : Nat → Sl → Sl → Int → Int → Hp → Option (Bool × Hp)
  | 0, _, _, _, _, _ => none
  | k_ + 1, v1, v2, v3, v4, H => if v4 < v3 then
    (ck ((0 : Int) ≤ v4 ∧ v4 < (v2.len : Int)) (
    (H.ldI .i64 v2.b (v2.o + (v4 : Int).toNat * 2)).bind fun x3 =>
    (H.ldI .i64 v2.b ((v2.o + (v4 : Int).toNat * 2) + 1)).bind fun x4 =>
    ((H.push (.cells [.int .i64 0, .int .i64 0] false)).sts H.n 0 [.int .i64 x3, .int .i64 x4]).bind fun H5 =>
    (H5.ldI .i64 H.n 0).bind fun x6 =>
    (H5.ldI .i64 H.n (0 + 1)).bind fun x7 =>
    (r44 x6 x7 H0).bind fun p8 =>
    if p8.1 = true then
      (ck (((0 : Int) ≤ 0 ∧ 0 ≤ v4 ∧ v4 ≤ (v1.cap : Int)) ∧ (v1.opn = 0 ∨ v1.opn = 2)) (
      r26_l1 (fun v1_ v2_ v3_ v4_ H_ => r26_l0 k_ v1_ v2_ v3_ v4_ H_) FUEL v1 H.n v2 v3 v4 (v1.cut 2 (0 : Int).toNat (v4 : Int).toNat) ((v1.cut 2 (0 : Int).toNat (v4 : Int).toNat).len : Int) 0 H5))
    else
      (some (false, H5))))
  else
    (if 1 ≤ (v1.len : Int) then
      (some ((decide ((v1.len : Int) ≤ 8)), H))
    else
      (some (false, H)))
noncomputable def r26 (a0 : Sl) (H : Hp) : Option (Bool × Hp) :=
  r26_l0 FUEL a0 a0 (a0.len : Int) 0 H
/- 29 congou/deals.Edge -/
def ret29 : Sl × Int → AV := fun r => .tup [.sl r.1, .int .i64 r.2]
noncomputable def r29 (app : App) (a0 : Sl) (H : Hp) : Option ((Sl × Int) × Hp) :=
  (r52 a0 H).bind fun p1 =>
  if p1.1 = true then
    ((r56 app a0 p1.2).bind fun p3 =>
    some ((p3.1, 0), p3.2))
  else
    (some ((⟨true, 0, 0, 0, 0, 0⟩, 2), p1.2))
/- 58 slices.Index[[][2]int,[2]int] -/
def ret58 : Int → AV := fun r => .int .i64 r
noncomputable def r58_l0 : Nat → Sl → Nat → Int → Int → Hp → Option (Int × Hp)
  | 0, _, _, _, _, _ => none
  | k_ + 1, v1, v2, v3, v4, H => if v4 < v3 then
    ((H.ldI .i64 v2 0).bind fun x2 =>
    (H.ldI .i64 v2 (0 + 1)).bind fun x3 =>
    ck ((0 : Int) ≤ v4 ∧ v4 < (v1.len : Int)) (
    (H.ldI .i64 v1.b (v1.o + (v4 : Int).toNat * 2)).bind fun x5 =>
    (H.ldI .i64 v1.b ((v1.o + (v4 : Int).toNat * 2) + 1)).bind fun x6 =>
    if (AV.keqs [.int .i64 x2, .int .i64 x3] [.int .i64 x5, .int .i64 x6]) = true then
      (some (v4, H))
    else
      (r58_l0 k_ v1 v2 v3 (w64 (v4 + 1)) H)))
  else
    (some ((-1), H))
noncomputable def r58 (a0 : Sl) (a1_0 : Int) (a1_1 : Int) (H : Hp) : Option (Int × Hp) :=
  lt (H.push (.cells [.int .i64 a1_0, .int .i64 a1_1] false)) fun H1 =>
  r58_l0 FUEL a0 H.n (a0.len : Int) 0 H1
/- 32 slices.Contains[[][2]int,[2]int] -/
def ret32 : Bool → AV := fun r => .bool r
noncomputable def r32 (a0 : Sl) (a1_0 : Int) (a1_1 : Int) (H : Hp) : Option (Bool × Hp) :=
  lt (H.push (.cells [.int .i64 a1_0, .int .i64 a1_1] false)) fun H1 =>
  (H1.ldI .i64 H.n 0).bind fun x2 =>
  (H1.ldI .i64 H.n (0 + 1)).bind fun x3 =>
  (r58 a0 x2 x3 H1).bind fun p4 =>
  some ((decide (0 ≤ p4.1)), p4.2)
/- 7 congou/congoulaw05.DealsCorners -/
def ret7 : Bool → AV := fun r => .bool r
noncomputable def r7_j6 (app : App) (kt4 : Sl → Sl → Nat → Sl → Int → Int → Sl → Int → Int → Hp → Option (Bool × Hp)) (v1 : Sl) (v2 : Sl) (v3 : Nat) (v4 : Sl) (v5 : Int) (v6 : Int) (v7 : Sl) (v8 : Int) (v9 : Int) (v10 : Bool) (H : Hp) : Option (Bool × Hp) :=
  if v10 = true then
    (some (false, H))
  else
    (kt4 v1 v2 v3 v4 v5 v6 v7 v8 (w64 (v9 + 1)) H)
noncomputable def r7_j7 (app : App) (kt1 : Sl → Sl → Sl → Int → Int → Hp → Option (Bool × Hp)) (v1 : Sl) (v2 : Sl) (v3 : Sl) (v4 : Int) (v5 : Int) (v6 : Bool) (H : Hp) : Option (Bool × Hp) :=
  if v6 = true then
    (some (false, H))
  else
    (kt1 v1 v2 v3 v4 (w64 (v5 + 1)) H)
noncomputable def r7_l4 (app : App) (kt1 : Sl → Sl → Sl → Int → Int → Hp → Option (Bool × Hp)) : Nat → Sl → Sl → Nat → Sl → Int → Int → Sl → Int → Int → Hp → Option (Bool × Hp)
  | 0, _, _, _, _, _, _, _, _, _, _ => none
  | k_ + 1, v1, v2, v3, v4, v5, v6, v7, v8, v9, H => if v9 < v8 then
    (ck ((0 : Int) ≤ v9 ∧ v9 < (v7.len : Int)) (
    (H.ldI .i64 v7.b (v7.o + (v9 : Int).toNat * 2)).bind fun x3 =>
    (H.ldI .i64 v7.b ((v7.o + (v9 : Int).toNat * 2) + 1)).bind fun x4 =>
    ((H.push (.cells [.int .i64 0, .int .i64 0] false)).sts H.n 0 [.int .i64 x3, .int .i64 x4]).bind fun H5 =>
    (H5.ldI .i64 H.n 0).bind fun x6 =>
    (H5.ldI .i64 H.n (0 + 1)).bind fun x7 =>
    (H5.ldI .i64 v3 0).bind fun x8 =>
    (H5.ldI .i64 v3 (0 + 1)).bind fun x9 =>
    if (AV.keqs [.int .i64 x6, .int .i64 x7] [.int .i64 x8, .int .i64 x9]) = true then
      (r7_j6 app (fun v1_ v2_ v3_ v4_ v5_ v6_ v7_ v8_ v9_ H_ => r7_l4 app kt1 k_ v1_ v2_ v3_ v4_ v5_ v6_ v7_ v8_ v9_ H_) v1 v2 v3 v4 v5 v6 v7 v8 v9 false H5)
    else
      ((H5.ldI .i64 H.n (0 + (0 : Int).toNat * 1)).bind fun x11 =>
      (H5.ldI .i64 v3 (0 + (0 : Int).toNat * 1)).bind fun x12 =>
      if x12 ≤ x11 then
        ((H5.ldI .i64 H.n (0 + (1 : Int).toNat * 1)).bind fun x14 =>
        (H5.ldI .i64 v3 (0 + (1 : Int).toNat * 1)).bind fun x15 =>
        r7_j6 app (fun v1_ v2_ v3_ v4_ v5_ v6_ v7_ v8_ v9_ H_ => r7_l4 app kt1 k_ v1_ v2_ v3_ v4_ v5_ v6_ v7_ v8_ v9_ H_) v1 v2 v3 v4 v5 v6 v7 v8 v9 (decide (x15 ≤ x14)) H5)
      else
        (r7_j6 app (fun v1_ v2_ v3_ v4_ v5_ v6_ v7_ v8_ v9_ H_ => r7_l4 app kt1 k_ v1_ v2_ v3_ v4_ v5_ v6_ v7_ v8_ v9_ H_) v1 v2 v3 v4 v5 v6 v7 v8 v9 false H5))))
  else
    ((r24 v1 H).bind fun p16 =>
    (p16.2.ldI .i64 v3 (0 + (0 : Int).toNat * 1)).bind fun x17 =>
    (p16.2.ldI .i64 v3 (0 + (1 : Int).toNat * 1)).bind fun x18 =>
    (r23 app p16.1 x17 1 x18 1 p16.2).bind fun p19 =>
    ck (H.ldI .i64 v3 (0 + (0 : Int).toNat * 1) = some x17) (
    ck (H.ldI .i64 v3 (0 + (1 : Int).toNat * 1) = some x18) (
    if p19.1.1 = true then
      (r7_j7 app kt1 v1 v2 v4 v5 v6 (decide (p19.1.2 ≠ 0)) p19.2)
    else
      (r7_j7 app kt1 v1 v2 v4 v5 v6 true p19.2))))
noncomputable def r7_j5 (app : App) (kt1 : Sl → Sl → Sl → Int → Int → Hp → Option (Bool × Hp)) (v1 : Sl) (v2 : Sl) (v3 : Nat) (v4 : Sl) (v5 : Int) (v6 : Int) (H : Hp) : Option (Bool × Hp) :=
  r7_l4 app kt1 FUEL v1 v2 v3 v4 v5 v6 v1 (v1.len : Int) 0 H
noncomputable def r7_j2 (app : App) (kt1 : Sl → Sl → Sl → Int → Int → Hp → Option (Bool × Hp)) (v1 : Sl) (v2 : Sl) (v3 : Int) (v4 : Nat) (v5 : Sl) (v6 : Int) (v7 : Int) (v8 : Bool) (H : Hp) : Option (Bool × Hp) :=
  if v8 = true then
    (some (false, H))
  else
    (if 1 < v3 then
      (ck ((0 : Int) ≤ (w64 (v3 - 2)) ∧ (w64 (v3 - 2)) < (v2.len : Int)) (
      (H.ldI .i64 v2.b (v2.o + (w64 (v3 - 2) : Int).toNat * 2)).bind fun x4 =>
      (H.ldI .i64 v2.b ((v2.o + (w64 (v3 - 2) : Int).toNat * 2) + 1)).bind fun x5 =>
      ck ((0 : Int) ≤ (w64 (v3 - 1)) ∧ (w64 (v3 - 1)) < (v2.len : Int)) (
      (H.ldI .i64 v2.b (v2.o + (w64 (v3 - 1) : Int).toNat * 2)).bind fun x7 =>
      (H.ldI .i64 v2.b ((v2.o + (w64 (v3 - 1) : Int).toNat * 2) + 1)).bind fun x8 =>
      (((H.push (.cells [.int .i64 0, .int .i64 0] false)).push (.cells [.int .i64 0, .int .i64 0] false)).sts H.n 0 [.int .i64 x4, .int .i64 x5]).bind fun H9 =>
      (H9.sts ((H.push (.cells [.int .i64 0, .int .i64 0] false)).n) 0 [.int .i64 x7, .int .i64 x8]).bind fun H10 =>
      ck ((H.push (.cells [.int .i64 0, .int .i64 0] false)).ldI .i64 v2.b (v2.o + (w64 (v3 - 1) : Int).toNat * 2) = some x7) (
      ck ((H.push (.cells [.int .i64 0, .int .i64 0] false)).ldI .i64 v2.b ((v2.o + (w64 (v3 - 1) : Int).toNat * 2) + 1) = some x8) (
      ck (((H.push (.cells [.int .i64 0, .int .i64 0] false)).push (.cells [.int .i64 0, .int .i64 0] false)).ldI .i64 v2.b (v2.o + (w64 (v3 - 1) : Int).toNat * 2) = some x7) (
      ck (((H.push (.cells [.int .i64 0, .int .i64 0] false)).push (.cells [.int .i64 0, .int .i64 0] false)).ldI .i64 v2.b ((v2.o + (w64 (v3 - 1) : Int).toNat * 2) + 1) = some x8) (
      ck (H9.ldI .i64 v2.b (v2.o + (w64 (v3 - 1) : Int).toNat * 2) = some x7) (
      ck (H9.ldI .i64 v2.b ((v2.o + (w64 (v3 - 1) : Int).toNat * 2) + 1) = some x8) (
      (H10.ldI .i64 ((H.push (.cells [.int .i64 0, .int .i64 0] false)).n) (0 + (0 : Int).toNat * 1)).bind fun x17 =>
      (H10.ldI .i64 H.n (0 + (0 : Int).toNat * 1)).bind fun x18 =>
      (H10.ldI .i64 v4 (0 + (1 : Int).toNat * 1)).bind fun x19 =>
      (H10.ldI .i64 ((H.push (.cells [.int .i64 0, .int .i64 0] false)).n) (0 + (1 : Int).toNat * 1)).bind fun x20 =>
      (H10.ldI .i64 ((H.push (.cells [.int .i64 0, .int .i64 0] false)).n) (0 + (1 : Int).toNat * 1)).bind fun x21 =>
      (H10.ldI .i64 H.n (0 + (1 : Int).toNat * 1)).bind fun x22 =>
      (H10.ldI .i64 v4 (0 + (0 : Int).toNat * 1)).bind fun x23 =>
      (H10.ldI .i64 ((H.push (.cells [.int .i64 0, .int .i64 0] false)).n) (0 + (0 : Int).toNat * 1)).bind fun x24 =>
      if 0 ≤ (w64 ((w64 ((w64 (x17 - x18)) * (w64 (x19 - x20)))) - (w64 ((w64 (x21 - x22)) * (w64 (x23 - x24)))))) then
        (some (false, H10))
      else
        (r7_j5 app kt1 v1 v2 v4 v5 v6 v7 H10))))))))))
    else
      (r7_j5 app kt1 v1 v2 v4 v5 v6 v7 H))
noncomputable def r7_j8 (app : App) (kt3 : Sl → Sl → Int → Int → Hp → Option (Bool × Hp)) (v1 : Sl) (v2 : Sl) (v3 : Int) (v4 : Int) (v5 : Bool) (H : Hp) : Option (Bool × Hp) :=
  if v5 = true then
    (some (false, H))
  else
    (kt3 v1 v2 v3 (w64 (v4 + 1)) H)
noncomputable def r7_l3 (app : App) : Nat → Sl → Sl → Int → Int → Hp → Option (Bool × Hp)
  | 0, _, _, _, _, _ => none
  | k_ + 1, v1, v2, v3, v4, H => if v4 < v3 then
    (ck ((0 : Int) ≤ v4 ∧ v4 < (v2.len : Int)) (
    (H.ldI .i64 v2.b (v2.o + (v4 : Int).toNat * 2)).bind fun x3 =>
    (H.ldI .i64 v2.b ((v2.o + (v4 : Int).toNat * 2) + 1)).bind fun x4 =>
    ((H.push (.cells [.int .i64 0, .int .i64 0] false)).sts H.n 0 [.int .i64 x3, .int .i64 x4]).bind fun H5 =>
    (H5.ldI .i64 H.n (0 + (1 : Int).toNat * 1)).bind fun x6 =>
    ck ((0 : Int) ≤ 0 ∧ 0 < (v1.len : Int)) (
    (H5.ldI .i64 v1.b ((v1.o + (0 : Int).toNat * 2) + (1 : Int).toNat * 1)).bind fun x8 =>
    if x8 < x6 then
      (r7_j8 app (fun v1_ v2_ v3_ v4_ H_ => r7_l3 app k_ v1_ v2_ v3_ v4_ H_) v1 v2 v3 v4 true H5)
    else
      ((H5.ldI .i64 H.n (0 + (0 : Int).toNat * 1)).bind fun x10 =>
      ck ((0 : Int) ≤ (w64 ((v1.len : Int) - 1)) ∧ (w64 ((v1.len : Int) - 1)) < (v1.len : Int)) (
      (H5.ldI .i64 v1.b ((v1.o + (w64 ((v1.len : Int) - 1) : Int).toNat * 2) + (0 : Int).toNat * 1)).bind fun x12 =>
      r7_j8 app (fun v1_ v2_ v3_ v4_ H_ => r7_l3 app k_ v1_ v2_ v3_ v4_ H_) v1 v2 v3 v4 (decide (x12 < x10)) H5)))))
  else
    ((app 19 [] H).bind fun p13 =>
    (p13.1.asB).bind fun x14 =>
    some (x14, p13.2))
noncomputable def r7_l1 (app : App) : Nat → Sl → Sl → Sl → Int → Int → Hp → Option (Bool × Hp)
  | 0, _, _, _, _, _, _ => none
  | k_ + 1, v1, v2, v3, v4, v5, H => if v5 < v4 then
    (ck ((0 : Int) ≤ v5 ∧ v5 < (v3.len : Int)) (
    (H.ldI .i64 v3.b (v3.o + (v5 : Int).toNat * 2)).bind fun x3 =>
    (H.ldI .i64 v3.b ((v3.o + (v5 : Int).toNat * 2) + 1)).bind fun x4 =>
    ((H.push (.cells [.int .i64 0, .int .i64 0] false)).sts H.n 0 [.int .i64 x3, .int .i64 x4]).bind fun H5 =>
    (H5.ldI .i64 H.n 0).bind fun x6 =>
    (H5.ldI .i64 H.n (0 + 1)).bind fun x7 =>
    (r32 v1 x6 x7 H5).bind fun p8 =>
    if p8.1 = true then
      (if 0 < v5 then
        (ck ((0 : Int) ≤ (w64 (v5 - 1)) ∧ (w64 (v5 - 1)) < (v2.len : Int)) (
        (p8.2.ldI .i64 v2.b ((v2.o + (w64 (v5 - 1) : Int).toNat * 2) + (0 : Int).toNat * 1)).bind fun x12 =>
        (p8.2.ldI .i64 H.n (0 + (0 : Int).toNat * 1)).bind fun x13 =>
        if x13 ≤ x12 then
          (r7_j2 app (fun v1_ v2_ v3_ v4_ v5_ H_ => r7_l1 app k_ v1_ v2_ v3_ v4_ v5_ H_) v1 v2 v5 H.n v3 v4 v5 true p8.2)
        else
          (ck ((0 : Int) ≤ (w64 (v5 - 1)) ∧ (w64 (v5 - 1)) < (v2.len : Int)) (
          (p8.2.ldI .i64 v2.b ((v2.o + (w64 (v5 - 1) : Int).toNat * 2) + (1 : Int).toNat * 1)).bind fun x16 =>
          (p8.2.ldI .i64 H.n (0 + (1 : Int).toNat * 1)).bind fun x17 =>
          r7_j2 app (fun v1_ v2_ v3_ v4_ v5_ H_ => r7_l1 app k_ v1_ v2_ v3_ v4_ v5_ H_) v1 v2 v5 H.n v3 v4 v5 (decide (x16 ≤ x17)) p8.2))))
      else
        (r7_j2 app (fun v1_ v2_ v3_ v4_ v5_ H_ => r7_l1 app k_ v1_ v2_ v3_ v4_ v5_ H_) v1 v2 v5 H.n v3 v4 v5 false p8.2))
    else
      (r7_j2 app (fun v1_ v2_ v3_ v4_ v5_ H_ => r7_l1 app k_ v1_ v2_ v3_ v4_ v5_ H_) v1 v2 v5 H.n v3 v4 v5 true p8.2)))
  else
    (r7_l3 app FUEL v2 v1 (v1.len : Int) 0 H)
noncomputable def r7_j0 (app : App) (v1 : Sl) (v2 : Sl) (v3 : Int) (v4 : Bool) (H : Hp) : Option (Bool × Hp) :=
  if v4 = true then
    (if v3 = 2 then
      ((app 19 [] H).bind fun p3 =>
      (p3.1.asB).bind fun x4 =>
      some (x4, p3.2))
    else
      (some (false, H)))
  else
    (if (v2.len : Int) = 0 then
      (some (false, H))
    else
      (r7_l1 app FUEL v1 v2 v2 (v2.len : Int) 0 H))
noncomputable def r7 (app : App) (a0 : Sl) (H : Hp) : Option (Bool × Hp) :=
  (r24 a0 H).bind fun p1 =>
  (r29 app p1.1 p1.2).bind fun p2 =>
  if p2.1.2 ≠ 0 then
    (r7_j0 app a0 p2.1.1 p2.1.2 true p2.2)
  else
    ((r26 a0 p2.2).bind fun p4 =>
    r7_j0 app a0 p2.1.1 p2.1.2 (!p4.1) p4.2)
/- 84 slices.Values[congou/deals.offers,[2]int]$1 -/
def ret84 : Unit → AV := fun _ => .tup []
noncomputable def r84_l0 (app : App) : Nat → AV → Sl → Int → Int → Hp → Option (Unit × Hp)
  | 0, _, _, _, _, _ => none
  | k_ + 1, v1, v2, v3, v4, H => if v4 < v3 then
    (ck ((0 : Int) ≤ v4 ∧ v4 < (v2.len : Int)) (
    (H.ldI .i64 v2.b (v2.o + (v4 : Int).toNat * 2)).bind fun x3 =>
    (H.ldI .i64 v2.b ((v2.o + (v4 : Int).toNat * 2) + 1)).bind fun x4 =>
    ((H.push (.cells [.int .i64 0, .int .i64 0] false)).sts H.n 0 [.int .i64 x3, .int .i64 x4]).bind fun H5 =>
    (H5.ldI .i64 H.n 0).bind fun x6 =>
    (H5.ldI .i64 H.n (0 + 1)).bind fun x7 =>
    (callv app v1 [.agg [.int .i64 x6, .int .i64 x7]] H5).bind fun p8 =>
    (p8.1.asB).bind fun x9 =>
    if x9 = true then
      (r84_l0 app k_ v1 v2 v3 (w64 (v4 + 1)) p8.2)
    else
      (some ((), p8.2))))
  else
    (some ((), H))
noncomputable def r84 (app : App) (a0 : AV) (c0 : Nat) (H : Hp) : Option (Unit × Hp) :=
  (H.ldSl c0 0).bind fun x1 =>
  r84_l0 app FUEL a0 x1 (x1.len : Int) 0 H
end Go.Lt.P5
