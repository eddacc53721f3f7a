/- PRINTED BY A PROGRAM OF OURS: what each function that 'DealsEqual' reaches computes on the abstract heap, and that the translated code does just that. Nothing is asked of the input. -/
import Derived.Test.YtficeemoekikdaaG9R0
set_option linter.unusedVariables false
set_option linter.unusedSimpArgs false
set_option maxRecDepth 100000
set_option maxHeartbeats 4000000
namespace Go.Lt.P5
open Go Go.Lt Go.Proofs
/- 54 (congou/deals.offers).lines -/
def ret54 : Sl → AV := fun r => .sl r
noncomputable def r54_l0 (app : App) : Nat → Sl → Sl → Int → Hp → Option (Sl × Hp)
  | 0, _, _, _, _ => none
  | k_ + 1, v1, v2, v3, H => if v3 < (v1.len : Int) then
    (ck ((0 : Int) ≤ (w64 (v3 - 1)) ∧ (w64 (v3 - 1)) < (v1.len : Int)) (
    (H.ldI .i64 v1.b ((v1.o + (w64 (v3 - 1) : Int).toNat * 2) + (1 : Int).toNat * 1)).bind fun x3 =>
    ck ((0 : Int) ≤ v3 ∧ v3 < (v1.len : Int)) (
    (H.ldI .i64 v1.b ((v1.o + (v3 : Int).toNat * 2) + (1 : Int).toNat * 1)).bind fun x5 =>
    ck ((0 : Int) ≤ v3 ∧ v3 < (v1.len : Int)) (
    (H.ldI .i64 v1.b ((v1.o + (v3 : Int).toNat * 2) + (0 : Int).toNat * 1)).bind fun x7 =>
    ck ((0 : Int) ≤ (w64 (v3 - 1)) ∧ (w64 (v3 - 1)) < (v1.len : Int)) (
    (H.ldI .i64 v1.b ((v1.o + (w64 (v3 - 1) : Int).toNat * 2) + (0 : Int).toNat * 1)).bind fun x9 =>
    ck ((0 : Int) ≤ v3 ∧ v3 < (v1.len : Int)) (
    (H.ldI .i64 v1.b ((v1.o + (v3 : Int).toNat * 2) + (0 : Int).toNat * 1)).bind fun x11 =>
    ck ((0 : Int) ≤ v3 ∧ v3 < (v1.len : Int)) (
    (H.ldI .i64 v1.b ((v1.o + (v3 : Int).toNat * 2) + (1 : Int).toNat * 1)).bind fun x13 =>
    (H.apN 3 v2 [.int .i64 (w64 (x3 - x5)), .int .i64 (w64 (x7 - x9)), .int .i64 (w64 ((w64 ((w64 (x3 - x5)) * x11)) + (w64 ((w64 (x7 - x9)) * x13))))] 1).bind fun x14 =>
    r54_l0 app k_ v1 x14.1 (w64 (v3 + 1)) x14.2)))))))
  else
    (some (v2, H))
noncomputable def r54 (app : App) (a0 : Sl) (H : Hp) : Option (Sl × Hp) :=
  (r56 app a0 H).bind fun p1 =>
  ck ((0 : Int) ≤ 0 ∧ 0 < (p1.1.len : Int)) (
  (p1.2.ldI .i64 p1.1.b ((p1.1.o + (0 : Int).toNat * 2) + (1 : Int).toNat * 1)).bind fun x3 =>
  ck ((0 : Int) ≤ (w64 ((p1.1.len : Int) - 1)) ∧ (w64 ((p1.1.len : Int) - 1)) < (p1.1.len : Int)) (
  (p1.2.ldI .i64 p1.1.b ((p1.1.o + (w64 ((p1.1.len : Int) - 1) : Int).toNat * 2) + (0 : Int).toNat * 1)).bind fun x5 =>
  lt (p1.2.push (.cells [.int .i64 0, .int .i64 1, .int .i64 x3, .int .i64 1, .int .i64 0, .int .i64 x5] false)) fun H6 =>
  r54_l0 app FUEL p1.1 ⟨false, p1.2.n, 0, 2, 2, 0⟩ 1 H6))
/- 78 (congou/deals.line).rest -/
def ret78 : Int → AV := fun r => .int .i64 r
noncomputable def r78 (a0_0 : Int) (a0_1 : Int) (a0_2 : Int) (a1_0 : Int) (a1_1 : Int) (H : Hp) : Option (Int × Hp) :=
  lt ((H.push (.cells [.int .i64 a0_0, .int .i64 a0_1, .int .i64 a0_2] false)).push (.cells [.int .i64 a1_0, .int .i64 a1_1] false)) fun H1 =>
  (H1.ldI .i64 H.n (0 + 2)).bind fun x2 =>
  (H1.ldI .i64 H.n (0 + 0)).bind fun x3 =>
  (H1.ldI .i64 ((H.push (.cells [.int .i64 a0_0, .int .i64 a0_1, .int .i64 a0_2] false)).n) (0 + (0 : Int).toNat * 1)).bind fun x4 =>
  (H1.ldI .i64 H.n (0 + 1)).bind fun x5 =>
  (H1.ldI .i64 ((H.push (.cells [.int .i64 a0_0, .int .i64 a0_1, .int .i64 a0_2] false)).n) (0 + (1 : Int).toNat * 1)).bind fun x6 =>
  some (w64 ((w64 (x2 - (w64 (x3 * x4)))) - (w64 (x5 * x6))), H1)
/- 64 congou/deals.read -/
def ret64 : Sl × Int → AV := fun r => .tup [.sl r.1, .int .i64 r.2]
noncomputable def r64_l0 (app : App) : Nat → Nat → Sl → Sl → Int → Int → Hp → Option ((Sl × Int) × Hp)
  | 0, _, _, _, _, _, _ => none
  | k_ + 1, v1, v2, v3, v4, v5, H => if v5 < v4 then
    (ck ((0 : Int) ≤ v5 ∧ v5 < (v3.len : Int)) (
    (H.ldI .i64 v3.b (v3.o + (v5 : Int).toNat * 3)).bind fun x3 =>
    (H.ldI .i64 v3.b ((v3.o + (v5 : Int).toNat * 3) + 1)).bind fun x4 =>
    (H.ldI .i64 v3.b ((v3.o + (v5 : Int).toNat * 3) + 2)).bind fun x5 =>
    ((H.push (.cells [.int .i64 0, .int .i64 0, .int .i64 0] false)).sts H.n 0 [.int .i64 x3, .int .i64 x4, .int .i64 x5]).bind fun H6 =>
    (H6.ldI .i64 H.n 0).bind fun x7 =>
    (H6.ldI .i64 H.n (0 + 1)).bind fun x8 =>
    (H6.ldI .i64 H.n (0 + 2)).bind fun x9 =>
    (H6.ldI .i64 v1 0).bind fun x10 =>
    (H6.ldI .i64 v1 (0 + 1)).bind fun x11 =>
    (r78 x7 x8 x9 x10 x11 H0).bind fun p12 =>
    if p12.1 ≤ 0 then
      (some ((⟨true, 0, 0, 0, 0, 0⟩, 4), H6))
    else
      (r64_l0 app k_ v1 v2 v3 v4 (w64 (v5 + 1)) H6)))
  else
    (some ((v2, 0), H))
noncomputable def r64_j1 (app : App) (v1 : Nat) (v2 : Sl) (v3 : Bool) (H : Hp) : Option ((Sl × Int) × Hp) :=
  if v3 = true then
    (some ((⟨true, 0, 0, 0, 0, 0⟩, 2), H))
  else
    ((r54 app v2 H).bind fun p2 =>
    r64_l0 app FUEL v1 v2 p2.1 (p2.1.len : Int) 0 p2.2)
noncomputable def r64 (app : App) (a0 : Sl) (a1_0 : Int) (a1_1 : Int) (H : Hp) : Option ((Sl × Int) × Hp) :=
  lt (H.push (.cells [.int .i64 a1_0, .int .i64 a1_1] false)) fun H1 =>
  (r52 a0 H1).bind fun p2 =>
  if p2.1 = true then
    ((p2.2.ldI .i64 H.n (0 + (0 : Int).toNat * 1)).bind fun x4 =>
    (r70 x4 H0).bind fun p5 =>
    if p5.1 = true then
      ((p2.2.ldI .i64 H.n (0 + (1 : Int).toNat * 1)).bind fun x7 =>
      (r70 x7 H0).bind fun p8 =>
      r64_j1 app H.n a0 (!p8.1) p2.2)
    else
      (r64_j1 app H.n a0 true p2.2))
  else
    (r64_j1 app H.n a0 true p2.2)
/- 68 congou/deals.compare -/
def ret68 : Int → AV := fun r => .int .i64 r
noncomputable def r68 (a0_0 : Int) (a0_1 : Int) (a1_0 : Int) (a1_1 : Int) (H : Hp) : Option (Int × Hp) :=
  lt ((H.push (.cells [.int .i64 a0_0, .int .i64 a0_1] false)).push (.cells [.int .i64 a1_0, .int .i64 a1_1] false)) fun H1 =>
  (H1.ldI .i64 H.n (0 + 0)).bind fun x2 =>
  (H1.ldI .i64 ((H.push (.cells [.int .i64 a0_0, .int .i64 a0_1] false)).n) (0 + 1)).bind fun x3 =>
  (H1.ldI .i64 ((H.push (.cells [.int .i64 a0_0, .int .i64 a0_1] false)).n) (0 + 0)).bind fun x4 =>
  (H1.ldI .i64 H.n (0 + 1)).bind fun x5 =>
  (r80 (w64 (x2 * x3)) (w64 (x4 * x5)) H0).bind fun p6 =>
  some (p6.1, H1)
/- 79 congou/deals.along -/
def ret79 : Int × Int → AV := fun r => .agg [.int .i64 r.1, .int .i64 r.2]
noncomputable def r79 (a0 : Int) (a1_0 : Int) (a1_1 : Int) (a2_0 : Int) (a2_1 : Int) (H : Hp) : Option ((Int × Int) × Hp) :=
  lt (((H.push (.cells [.int .i64 a1_0, .int .i64 a1_1] false)).push (.cells [.int .i64 a2_0, .int .i64 a2_1] false)).push (.cells [.int .i64 0, .int .i64 0] false)) fun H1 =>
  (H1.ldI .i64 H.n (0 + 0)).bind fun x2 =>
  (H1.ldI .i64 ((H.push (.cells [.int .i64 a1_0, .int .i64 a1_1] false)).n) (0 + 0)).bind fun x3 =>
  (H1.ldI .i64 H.n (0 + 1)).bind fun x4 =>
  (H1.ldI .i64 ((H.push (.cells [.int .i64 a1_0, .int .i64 a1_1] false)).n) (0 + 1)).bind fun x5 =>
  (r48 (w64 (x2 * x3)) (w64 (x4 * x5)) H0).bind fun p6 =>
  ((H1.push (.cells [.int .i64 0, .int .i64 0] false)).sts H1.n 0 [.int .i64 p6.1.1, .int .i64 p6.1.2]).bind fun H7 =>
  (H7.ldI .i64 H1.n (0 + 1)).bind fun x8 =>
  (H7.ldI .i64 H1.n (0 + 0)).bind fun x9 =>
  (H7.ldI .i64 H1.n (0 + 1)).bind fun x10 =>
  (r48 (w64 ((w64 (a0 * x8)) + x9)) x10 H0).bind fun p11 =>
  (H7.sts (((H.push (.cells [.int .i64 a1_0, .int .i64 a1_1] false)).push (.cells [.int .i64 a2_0, .int .i64 a2_1] false)).n) 0 [.int .i64 p11.1.1, .int .i64 p11.1.2]).bind fun H12 =>
  (H12.ldI .i64 (((H.push (.cells [.int .i64 a1_0, .int .i64 a1_1] false)).push (.cells [.int .i64 a2_0, .int .i64 a2_1] false)).n) 0).bind fun x13 =>
  (H12.ldI .i64 (((H.push (.cells [.int .i64 a1_0, .int .i64 a1_1] false)).push (.cells [.int .i64 a2_0, .int .i64 a2_1] false)).n) (0 + 1)).bind fun x14 =>
  some ((x13, x14), H12)
/- 65 (congou/deals.offers).far -/
def ret65 : Int × Int × Int × Int → AV := fun r => .agg [.int .i64 r.1, .int .i64 r.2.1, .int .i64 r.2.2.1, .int .i64 r.2.2.2]
noncomputable def r65_j1 (app : App) (kt0 : Nat → Nat → Nat → Nat → Nat → Sl → Int → Int → Hp → Option ((Int × Int × Int × Int) × Hp)) (v1 : Nat) (v2 : Nat) (v3 : Nat) (v4 : Nat) (v5 : Nat) (v6 : Nat) (v7 : Sl) (v8 : Int) (v9 : Int) (v10 : Bool) (H : Hp) : Option ((Int × Int × Int × Int) × Hp) :=
  if v10 = true then
    ((H.ldI .i64 v6 0).bind fun x2 =>
    (H.ldI .i64 v6 (0 + 1)).bind fun x3 =>
    (H.sts v5 0 [.int .i64 x2, .int .i64 x3]).bind fun H4 =>
    kt0 v1 v2 v3 v4 v5 v7 v8 (w64 (v9 + 1)) H4)
  else
    (kt0 v1 v2 v3 v4 v5 v7 v8 (w64 (v9 + 1)) H)
noncomputable def r65_l0 (app : App) : Nat → Nat → Nat → Nat → Nat → Nat → Sl → Int → Int → Hp → Option ((Int × Int × Int × Int) × Hp)
  | 0, _, _, _, _, _, _, _, _, _ => none
  | k_ + 1, v1, v2, v3, v4, v5, v6, v7, v8, H => if v8 < v7 then
    (ck ((0 : Int) ≤ v8 ∧ v8 < (v6.len : Int)) (
    (H.ldI .i64 v6.b (v6.o + (v8 : Int).toNat * 3)).bind fun x3 =>
    (H.ldI .i64 v6.b ((v6.o + (v8 : Int).toNat * 3) + 1)).bind fun x4 =>
    (H.ldI .i64 v6.b ((v6.o + (v8 : Int).toNat * 3) + 2)).bind fun x5 =>
    ((H.push (.cells [.int .i64 0, .int .i64 0, .int .i64 0] false)).sts H.n 0 [.int .i64 x3, .int .i64 x4, .int .i64 x5]).bind fun H6 =>
    (H6.ldI .i64 H.n (0 + 0)).bind fun x7 =>
    (H6.ldI .i64 v2 (0 + 0)).bind fun x8 =>
    (H6.ldI .i64 v3 (0 + 1)).bind fun x9 =>
    (H6.ldI .i64 H.n (0 + 1)).bind fun x10 =>
    (H6.ldI .i64 v3 (0 + 0)).bind fun x11 =>
    (H6.ldI .i64 v2 (0 + 1)).bind fun x12 =>
    if (w64 ((w64 ((w64 (x7 * x8)) * x9)) + (w64 ((w64 (x10 * x11)) * x12)))) = 0 then
      (r65_l0 app k_ v1 v2 v3 v4 v5 v6 v7 (w64 (v8 + 1)) H6)
    else
      ((H6.ldI .i64 H.n 0).bind fun x14 =>
      (H6.ldI .i64 H.n (0 + 1)).bind fun x15 =>
      (H6.ldI .i64 H.n (0 + 2)).bind fun x16 =>
      (H6.ldI .i64 v1 0).bind fun x17 =>
      (H6.ldI .i64 v1 (0 + 1)).bind fun x18 =>
      (r78 x14 x15 x16 x17 x18 H0).bind fun p19 =>
      (H6.ldI .i64 v2 (0 + 1)).bind fun x20 =>
      (H6.ldI .i64 v3 (0 + 1)).bind fun x21 =>
      (r48 (w64 ((w64 (p19.1 * x20)) * x21)) (w64 ((w64 ((w64 (x7 * x8)) * x9)) + (w64 ((w64 (x10 * x11)) * x12)))) H0).bind fun p22 =>
      ((H6.push (.cells [.int .i64 0, .int .i64 0] false)).sts H6.n 0 [.int .i64 p22.1.1, .int .i64 p22.1.2]).bind fun H23 =>
      (H23.ldI .i64 v5 (0 + 1)).bind fun x24 =>
      if x24 = 0 then
        (r65_j1 app (fun v1_ v2_ v3_ v4_ v5_ v6_ v7_ v8_ H_ => r65_l0 app k_ v1_ v2_ v3_ v4_ v5_ v6_ v7_ v8_ H_) v1 v2 v3 v4 v5 H6.n v6 v7 v8 true H23)
      else
        ((H23.ldI .i64 H6.n 0).bind fun x26 =>
        (H23.ldI .i64 H6.n (0 + 1)).bind fun x27 =>
        (H23.ldI .i64 v5 0).bind fun x28 =>
        (H23.ldI .i64 v5 (0 + 1)).bind fun x29 =>
        (r68 x26 x27 x28 x29 H0).bind fun p30 =>
        r65_j1 app (fun v1_ v2_ v3_ v4_ v5_ v6_ v7_ v8_ H_ => r65_l0 app k_ v1_ v2_ v3_ v4_ v5_ v6_ v7_ v8_ H_) v1 v2 v3 v4 v5 H6.n v6 v7 v8 (decide (p30.1 < 0)) H23))))
  else
    ((H.ldI .i64 v1 (0 + (0 : Int).toNat * 1)).bind fun x31 =>
    (H.ldI .i64 v5 0).bind fun x32 =>
    (H.ldI .i64 v5 (0 + 1)).bind fun x33 =>
    (H.ldI .i64 v2 0).bind fun x34 =>
    (H.ldI .i64 v2 (0 + 1)).bind fun x35 =>
    (r79 x31 x32 x33 x34 x35 H0).bind fun p36 =>
    (H.ldI .i64 v1 (0 + (1 : Int).toNat * 1)).bind fun x37 =>
    (H.ldI .i64 v5 0).bind fun x38 =>
    (H.ldI .i64 v5 (0 + 1)).bind fun x39 =>
    (H.ldI .i64 v3 0).bind fun x40 =>
    (H.ldI .i64 v3 (0 + 1)).bind fun x41 =>
    (r79 x37 x38 x39 x40 x41 H0).bind fun p42 =>
    (H.sts v4 0 [.int .i64 p36.1.1, .int .i64 p36.1.2, .int .i64 p42.1.1, .int .i64 p42.1.2]).bind fun H43 =>
    (H43.ldI .i64 v4 0).bind fun x44 =>
    (H43.ldI .i64 v4 (0 + 1)).bind fun x45 =>
    (H43.ldI .i64 v4 (0 + 2)).bind fun x46 =>
    (H43.ldI .i64 v4 (0 + 3)).bind fun x47 =>
    some ((x44, x45, x46, x47), H43))
noncomputable def r65 (app : App) (a0 : Sl) (a1_0 : Int) (a1_1 : Int) (a2_0 : Int) (a2_1 : Int) (a3_0 : Int) (a3_1 : Int) (H : Hp) : Option ((Int × Int × Int × Int) × Hp) :=
  lt ((((H.push (.cells [.int .i64 a1_0, .int .i64 a1_1] false)).push (.cells [.int .i64 a2_0, .int .i64 a2_1] false)).push (.cells [.int .i64 a3_0, .int .i64 a3_1] false)).push (.cells [.int .i64 0, .int .i64 0, .int .i64 0, .int .i64 0] false)) fun H1 =>
  ((H1.push (.cells [.int .i64 0, .int .i64 0] false)).sts H1.n 0 [.int .i64 0, .int .i64 0]).bind fun H2 =>
  (r54 app a0 H2).bind fun p3 =>
  r65_l0 app FUEL H.n ((H.push (.cells [.int .i64 a1_0, .int .i64 a1_1] false)).n) (((H.push (.cells [.int .i64 a1_0, .int .i64 a1_1] false)).push (.cells [.int .i64 a2_0, .int .i64 a2_1] false)).n) ((((H.push (.cells [.int .i64 a1_0, .int .i64 a1_1] false)).push (.cells [.int .i64 a2_0, .int .i64 a2_1] false)).push (.cells [.int .i64 a3_0, .int .i64 a3_1] false)).n) H1.n p3.1 (p3.1.len : Int) 0 p3.2
/- 40 congou/deals.Halves -/
def ret40 : Int × Int × Int × Int × Int → AV := fun r => .tup [.agg [.int .i64 r.1, .int .i64 r.2.1, .int .i64 r.2.2.1, .int .i64 r.2.2.2.1], .int .i64 r.2.2.2.2]
noncomputable def r40 (app : App) (a0 : Sl) (a1_0 : Int) (a1_1 : Int) (H : Hp) : Option ((Int × Int × Int × Int × Int) × Hp) :=
  lt ((H.push (.cells [.int .i64 a1_0, .int .i64 a1_1] false)).push (.cells [.int .i64 0, .int .i64 0, .int .i64 0, .int .i64 0] false)) fun H1 =>
  (H1.ldI .i64 H.n 0).bind fun x2 =>
  (H1.ldI .i64 H.n (0 + 1)).bind fun x3 =>
  (r64 app a0 x2 x3 H1).bind fun p4 =>
  if p4.1.2 ≠ 0 then
    ((p4.2.sts ((H.push (.cells [.int .i64 a1_0, .int .i64 a1_1] false)).n) 0 [.int .i64 0, .int .i64 0, .int .i64 0, .int .i64 0]).bind fun H6 =>
    (H6.ldI .i64 ((H.push (.cells [.int .i64 a1_0, .int .i64 a1_1] false)).n) 0).bind fun x7 =>
    (H6.ldI .i64 ((H.push (.cells [.int .i64 a1_0, .int .i64 a1_1] false)).n) (0 + 1)).bind fun x8 =>
    (H6.ldI .i64 ((H.push (.cells [.int .i64 a1_0, .int .i64 a1_1] false)).n) (0 + 2)).bind fun x9 =>
    (H6.ldI .i64 ((H.push (.cells [.int .i64 a1_0, .int .i64 a1_1] false)).n) (0 + 3)).bind fun x10 =>
    some ((x7, x8, x9, x10, p4.1.2), H6))
  else
    ((r48 1 1 H0).bind fun p11 =>
    ((p4.2.push (.cells [.int .i64 0, .int .i64 0] false)).sts p4.2.n 0 [.int .i64 p11.1.1, .int .i64 p11.1.2]).bind fun H12 =>
    (H12.ldI .i64 H.n 0).bind fun x13 =>
    (H12.ldI .i64 H.n (0 + 1)).bind fun x14 =>
    (H12.ldI .i64 p4.2.n 0).bind fun x15 =>
    (H12.ldI .i64 p4.2.n (0 + 1)).bind fun x16 =>
    (H12.ldI .i64 p4.2.n 0).bind fun x17 =>
    (H12.ldI .i64 p4.2.n (0 + 1)).bind fun x18 =>
    (r65 app p4.1.1 x13 x14 x15 x16 x17 x18 H12).bind fun p19 =>
    (p19.2.sts ((H.push (.cells [.int .i64 a1_0, .int .i64 a1_1] false)).n) 0 [.int .i64 p19.1.1, .int .i64 p19.1.2.1, .int .i64 p19.1.2.2.1, .int .i64 p19.1.2.2.2]).bind fun H20 =>
    (H20.ldI .i64 ((H.push (.cells [.int .i64 a1_0, .int .i64 a1_1] false)).n) 0).bind fun x21 =>
    (H20.ldI .i64 ((H.push (.cells [.int .i64 a1_0, .int .i64 a1_1] false)).n) (0 + 1)).bind fun x22 =>
    (H20.ldI .i64 ((H.push (.cells [.int .i64 a1_0, .int .i64 a1_1] false)).n) (0 + 2)).bind fun x23 =>
    (H20.ldI .i64 ((H.push (.cells [.int .i64 a1_0, .int .i64 a1_1] false)).n) (0 + 3)).bind fun x24 =>
    some ((x21, x22, x23, x24, 0), H20))
/- 19 congou/congoulaw05.awake -/
def ret19 : Bool → AV := fun r => .bool r
noncomputable def r19 (app : App) (H : Hp) : Option (Bool × Hp) :=
  (r40 app ⟨false, H.n, 0, 2, 2, 0⟩ 0 0 (H.push (.cells [.int .i64 0, .int .i64 10, .int .i64 10, .int .i64 0] false))).bind fun p1 =>
  ((p1.2.push (.cells [.int .i64 0, .int .i64 0, .int .i64 0, .int .i64 0] false)).sts p1.2.n 0 [.int .i64 p1.1.1, .int .i64 p1.1.2.1, .int .i64 p1.1.2.2.1, .int .i64 p1.1.2.2.2.1]).bind fun H2 =>
  if p1.1.2.2.2.2 = 0 then
    ((H2.ldI .i64 p1.2.n 0).bind fun x4 =>
    (H2.ldI .i64 p1.2.n (0 + 1)).bind fun x5 =>
    (H2.ldI .i64 p1.2.n (0 + 2)).bind fun x6 =>
    (H2.ldI .i64 p1.2.n (0 + 3)).bind fun x7 =>
    some ((((x4 == 5) && (x5 == 1)) && ((x6 == 5) && (x7 == 1))), H2))
  else
    (some (false, H2))
/- 44 congou/congouref05.Fallback -/
def ret44 : Bool → AV := fun r => .bool r
noncomputable def r44 (a0_0 : Int) (a0_1 : Int) (H : Hp) : Option (Bool × Hp) :=
  lt (H.push (.cells [.int .i64 a0_0, .int .i64 a0_1] false)) fun H1 =>
  (H1.ldI .i64 H.n (0 + (0 : Int).toNat * 1)).bind fun x2 =>
  if 0 ≤ x2 then
    ((H1.ldI .i64 H.n (0 + (0 : Int).toNat * 1)).bind fun x4 =>
    if x4 ≤ 30 then
      ((H1.ldI .i64 H.n (0 + (1 : Int).toNat * 1)).bind fun x6 =>
      if 0 ≤ x6 then
        ((H1.ldI .i64 H.n (0 + (1 : Int).toNat * 1)).bind fun x8 =>
        some ((decide (x8 ≤ 30)), H1))
      else
        (some (false, H1)))
    else
      (some (false, H1)))
  else
    (some (false, H1))
/- 26 congou/congouref05.Offers -/
def ret26 : Bool → AV := fun r => .bool r
noncomputable def r26_l1 (kt0 : Sl → Sl → Int → Int → Hp → Option (Bool × Hp)) : Nat → Sl → Nat → Sl → Int → Int → Sl → Int → Int → Hp → Option (Bool × Hp)
  | 0, _, _, _, _, _, _, _, _, _ => none
  | k_ + 1, v1, v2, v3, v4, v5, v6, v7, v8, H => if v8 < v7 then
    (ck ((0 : Int) ≤ v8 ∧ v8 < (v6.len : Int)) (
    (H.ldI .i64 v6.b (v6.o + (v8 : Int).toNat * 2)).bind fun x3 =>
    (H.ldI .i64 v6.b ((v6.o + (v8 : Int).toNat * 2) + 1)).bind fun x4 =>
    ((H.push (.cells [.int .i64 0, .int .i64 0] false)).sts H.n 0 [.int .i64 x3, .int .i64 x4]).bind fun H5 =>
    (H5.ldI .i64 v2 0).bind fun x6 =>
    (H5.ldI .i64 v2 (0 + 1)).bind fun x7 =>
    (H5.ldI .i64 H.n 0).bind fun x8 =>
    (H5.ldI .i64 H.n (0 + 1)).bind fun x9 =>
    if (AV.keqs [.int .i64 x6, .int .i64 x7] [.int .i64 x8, .int .i64 x9]) = true then
      (some (false, H5))
    else
      (r26_l1 kt0 k_ v1 v2 v3 v4 v5 v6 v7 (w64 (v8 + 1)) H5)))
  else
    (kt0 v1 v3 v4 (w64 (v5 + 1)) H)
noncomputable def r26_l0 : Nat → Sl → Sl → Int → Int → Hp → Option (Bool × Hp)
  | 0, _, _, _, _, _ => none
  | k_ + 1, v1, v2, v3, v4, H => if v4 < v3 then
    (ck ((0 : Int) ≤ v4 ∧ v4 < (v2.len : Int)) (
    (H.ldI .i64 v2.b (v2.o + (v4 : Int).toNat * 2)).bind fun x3 =>
    (H.ldI .i64 v2.b ((v2.o + (v4 : Int).toNat * 2) + 1)).bind fun x4 =>
    ((H.push (.cells [.int .i64 0, .int .i64 0] false)).sts H.n 0 [.int .i64 x3, .int .i64 x4]).bind fun H5 =>
    (H5.ldI .i64 H.n 0).bind fun x6 =>
    (H5.ldI .i64 H.n (0 + 1)).bind fun x7 =>
    (r44 x6 x7 H0).bind fun p8 =>
    if p8.1 = true then
      (ck (((0 : Int) ≤ 0 ∧ 0 ≤ v4 ∧ v4 ≤ (v1.cap : Int)) ∧ (v1.opn = 0 ∨ v1.opn = 2)) (
      r26_l1 (fun v1_ v2_ v3_ v4_ H_ => r26_l0 k_ v1_ v2_ v3_ v4_ H_) FUEL v1 H.n v2 v3 v4 (v1.cut 2 (0 : Int).toNat (v4 : Int).toNat) ((v1.cut 2 (0 : Int).toNat (v4 : Int).toNat).len : Int) 0 H5))
    else
      (some (false, H5))))
  else
    (if 1 ≤ (v1.len : Int) then
      (some ((decide ((v1.len : Int) ≤ 8)), H))
    else
      (some (false, H)))
noncomputable def r26 (a0 : Sl) (H : Hp) : Option (Bool × Hp) :=
  r26_l0 FUEL a0 a0 (a0.len : Int) 0 H
/- 58 slices.Index[[][2]int,[2]int] -/
def ret58 : Int → AV := fun r => .int .i64 r
noncomputable def r58_l0 : Nat → Sl → Nat → Int → Int → Hp → Option (Int × Hp)
  | 0, _, _, _, _, _ => none
  | k_ + 1, v1, v2, v3, v4, H => if v4 < v3 then
    ((H.ldI .i64 v2 0).bind fun x2 =>
    (H.ldI .i64 v2 (0 + 1)).bind fun x3 =>
    ck ((0 : Int) ≤ v4 ∧ v4 < (v1.len : Int)) (
    (H.ldI .i64 v1.b (v1.o + (v4 : Int).toNat * 2)).bind fun x5 =>
    (H.ldI .i64 v1.b ((v1.o + (v4 : Int).toNat * 2) + 1)).bind fun x6 =>
    if (AV.keqs [.int .i64 x2, .int .i64 x3] [.int .i64 x5, .int .i64 x6]) = true then
      (some (v4, H))
    else
      (r58_l0 k_ v1 v2 v3 (w64 (v4 + 1)) H)))
  else
    (some ((-1), H))
noncomputable def r58 (a0 : Sl) (a1_0 : Int) (a1_1 : Int) (H : Hp) : Option (Int × Hp) :=
  lt (H.push (.cells [.int .i64 a1_0, .int .i64 a1_1] false)) fun H1 =>
  r58_l0 FUEL a0 H.n (a0.len : Int) 0 H1
/- 32 slices.Contains[[][2]int,[2]int] -/
def ret32 : Bool → AV := fun r => .bool r
noncomputable def r32 (a0 : Sl) (a1_0 : Int) (a1_1 : Int) (H : Hp) : Option (Bool × Hp) :=
  lt (H.push (.cells [.int .i64 a1_0, .int .i64 a1_1] false)) fun H1 =>
  (H1.ldI .i64 H.n 0).bind fun x2 =>
  (H1.ldI .i64 H.n (0 + 1)).bind fun x3 =>
  (r58 a0 x2 x3 H1).bind fun p4 =>
  some ((decide (0 ≤ p4.1)), p4.2)
/- 41 slices.Clone[[][2]int,[2]int] -/
def ret41 : Sl → AV := fun r => .sl r
noncomputable def r41 (a0 : Sl) (H : Hp) : Option (Sl × Hp) :=
  if a0.nil = true then
    (some (⟨true, 0, 0, 0, 0, 0⟩, H))
  else
    (((H.push (.cells [] false)).lds a0.b a0.o (a0.len * 2)).bind fun x2 =>
    ck (x2.all AV.one = true) (
    ((H.push (.cells [] false)).app 2 ⟨false, H.n, 0, 0, 0, 0⟩ x2 a0.len).bind fun x4 =>
    some (x4.1, x4.2)))
/- 24 congou/congoulaw05.list -/
def ret24 : Sl → AV := fun r => .sl r
noncomputable def r24 (a0 : Sl) (H : Hp) : Option (Sl × Hp) :=
  ck (((0 : Int) ≤ 0 ∧ 0 ≤ (if 11 < (a0.len : Int) then 11 else (a0.len : Int)) ∧ (if 11 < (a0.len : Int) then 11 else (a0.len : Int)) ≤ (a0.cap : Int)) ∧ (a0.opn = 0 ∨ a0.opn = 2)) (
  (r41 (a0.cut 2 (0 : Int).toNat ((if 11 < (a0.len : Int) then 11 else (a0.len : Int)) : Int).toNat) H).bind fun p2 =>
  some (p2.1, p2.2))
/- 42 congou/congoulaw05.right -/
def ret42 : Bool → AV := fun r => .bool r
noncomputable def r42_j1 (kt0 : Sl → Int → Int → Hp → Option (Bool × Hp)) (v1 : Sl) (v2 : Int) (v3 : Int) (v4 : Bool) (H : Hp) : Option (Bool × Hp) :=
  if v4 = true then
    (some (false, H))
  else
    (kt0 v1 v2 (w64 (v3 + 1)) H)
noncomputable def r42_l0 : Nat → Sl → Int → Int → Hp → Option (Bool × Hp)
  | 0, _, _, _, _ => none
  | k_ + 1, v1, v2, v3, H => if v3 < v2 then
    (ck ((0 : Int) ≤ v3 ∧ v3 < (v1.len : Int)) (
    (H.ldI .i64 v1.b (v1.o + (v3 : Int).toNat * 2)).bind fun x3 =>
    (H.ldI .i64 v1.b ((v1.o + (v3 : Int).toNat * 2) + 1)).bind fun x4 =>
    ((H.push (.cells [.int .i64 0, .int .i64 0] false)).sts H.n 0 [.int .i64 x3, .int .i64 x4]).bind fun H5 =>
    (H5.ldI .i64 H.n (0 + 1)).bind fun x6 =>
    if x6 < 1 then
      (r42_j1 (fun v1_ v2_ v3_ H_ => r42_l0 k_ v1_ v2_ v3_ H_) v1 v2 v3 true H5)
    else
      ((H5.ldI .i64 H.n (0 + 1)).bind fun x8 =>
      if 2147483648 < x8 then
        (r42_j1 (fun v1_ v2_ v3_ H_ => r42_l0 k_ v1_ v2_ v3_ H_) v1 v2 v3 true H5)
      else
        ((H5.ldI .i64 H.n (0 + 0)).bind fun x10 =>
        if x10 < 0 then
          (r42_j1 (fun v1_ v2_ v3_ H_ => r42_l0 k_ v1_ v2_ v3_ H_) v1 v2 v3 true H5)
        else
          ((H5.ldI .i64 H.n (0 + 0)).bind fun x12 =>
          (H5.ldI .i64 H.n (0 + 1)).bind fun x13 =>
          r42_j1 (fun v1_ v2_ v3_ H_ => r42_l0 k_ v1_ v2_ v3_ H_) v1 v2 v3 (decide ((w64 (30 * x13)) < x12)) H5)))))
  else
    (some (true, H))
noncomputable def r42 (a0_0 : Int) (a0_1 : Int) (a0_2 : Int) (a0_3 : Int) (H : Hp) : Option (Bool × Hp) :=
  lt (H.push (.cells [.int .i64 a0_0, .int .i64 a0_1, .int .i64 a0_2, .int .i64 a0_3] false)) fun H1 =>
  (H1.ldI .i64 H.n (0 + 0)).bind fun x2 =>
  (H1.ldI .i64 H.n ((0 + 0) + 1)).bind fun x3 =>
  (H1.ldI .i64 H.n (0 + 2)).bind fun x4 =>
  (H1.ldI .i64 H.n ((0 + 2) + 1)).bind fun x5 =>
  lt (H1.push (.cells [.int .i64 x2, .int .i64 x3, .int .i64 x4, .int .i64 x5] false)) fun H6 =>
  r42_l0 FUEL ⟨false, H1.n, 0, 2, 2, 0⟩ ((⟨false, H1.n, 0, 2, 2, 0⟩ : Sl).len : Int) 0 H6
/- 69 (congou/deals.line).middle -/
def ret69 : Int × Int × Int × Int × Bool → AV := fun r => .tup [.agg [.int .i64 r.1, .int .i64 r.2.1, .int .i64 r.2.2.1, .int .i64 r.2.2.2.1], .bool r.2.2.2.2]
noncomputable def r69 (a0_0 : Int) (a0_1 : Int) (a0_2 : Int) (a1_0 : Int) (a1_1 : Int) (a2_0 : Int) (a2_1 : Int) (a3_0 : Int) (a3_1 : Int) (H : Hp) : Option ((Int × Int × Int × Int × Bool) × Hp) :=
  lt (((((H.push (.cells [.int .i64 a0_0, .int .i64 a0_1, .int .i64 a0_2] false)).push (.cells [.int .i64 a1_0, .int .i64 a1_1] false)).push (.cells [.int .i64 a2_0, .int .i64 a2_1] false)).push (.cells [.int .i64 a3_0, .int .i64 a3_1] false)).push (.cells [.int .i64 0, .int .i64 0, .int .i64 0, .int .i64 0] false)) fun H1 =>
  (H1.ldI .i64 H.n 0).bind fun x2 =>
  (H1.ldI .i64 H.n (0 + 1)).bind fun x3 =>
  (H1.ldI .i64 H.n (0 + 2)).bind fun x4 =>
  (H1.ldI .i64 ((H.push (.cells [.int .i64 a0_0, .int .i64 a0_1, .int .i64 a0_2] false)).n) 0).bind fun x5 =>
  (H1.ldI .i64 ((H.push (.cells [.int .i64 a0_0, .int .i64 a0_1, .int .i64 a0_2] false)).n) (0 + 1)).bind fun x6 =>
  (r78 x2 x3 x4 x5 x6 H0).bind fun p7 =>
  (H1.ldI .i64 H.n (0 + 0)).bind fun x8 =>
  (H1.ldI .i64 ((H.push (.cells [.int .i64 a0_0, .int .i64 a0_1, .int .i64 a0_2] false)).n) (0 + (0 : Int).toNat * 1)).bind fun x9 =>
  (H1.ldI .i64 H.n (0 + 0)).bind fun x10 =>
  (r48 (w64 (p7.1 + (w64 ((w64 (2 * x8)) * x9)))) (w64 (2 * x10)) H0).bind fun p11 =>
  (H1.ldI .i64 H.n 0).bind fun x12 =>
  (H1.ldI .i64 H.n (0 + 1)).bind fun x13 =>
  (H1.ldI .i64 H.n (0 + 2)).bind fun x14 =>
  (H1.ldI .i64 ((H.push (.cells [.int .i64 a0_0, .int .i64 a0_1, .int .i64 a0_2] false)).n) 0).bind fun x15 =>
  (H1.ldI .i64 ((H.push (.cells [.int .i64 a0_0, .int .i64 a0_1, .int .i64 a0_2] false)).n) (0 + 1)).bind fun x16 =>
  (r78 x12 x13 x14 x15 x16 H0).bind fun p17 =>
  (H1.ldI .i64 H.n (0 + 1)).bind fun x18 =>
  (H1.ldI .i64 ((H.push (.cells [.int .i64 a0_0, .int .i64 a0_1, .int .i64 a0_2] false)).n) (0 + (1 : Int).toNat * 1)).bind fun x19 =>
  (H1.ldI .i64 H.n (0 + 1)).bind fun x20 =>
  (r48 (w64 (p17.1 + (w64 ((w64 (2 * x18)) * x19)))) (w64 (2 * x20)) H0).bind fun p21 =>
  ((H1.push (.cells [.int .i64 0, .int .i64 0, .int .i64 0, .int .i64 0] false)).sts H1.n 0 [.int .i64 p11.1.1, .int .i64 p11.1.2, .int .i64 p21.1.1, .int .i64 p21.1.2]).bind fun H22 =>
  (H22.ldI .i64 H1.n 0).bind fun x23 =>
  (H22.ldI .i64 H1.n (0 + 1)).bind fun x24 =>
  (H22.ldI .i64 H1.n (0 + 2)).bind fun x25 =>
  (H22.ldI .i64 H1.n (0 + 3)).bind fun x26 =>
  (H22.ldI .i64 H1.n (0 + 0)).bind fun x27 =>
  (H22.ldI .i64 H1.n ((0 + 0) + 1)).bind fun x28 =>
  (H22.ldI .i64 (((H.push (.cells [.int .i64 a0_0, .int .i64 a0_1, .int .i64 a0_2] false)).push (.cells [.int .i64 a1_0, .int .i64 a1_1] false)).n) (0 + (0 : Int).toNat * 1)).bind fun x29 =>
  (r48 x29 1 H0).bind fun p30 =>
  (r68 x27 x28 p30.1.1 p30.1.2 H0).bind fun p31 =>
  if 0 ≤ p31.1 then
    ((H22.ldI .i64 H1.n (0 + 0)).bind fun x33 =>
    (H22.ldI .i64 H1.n ((0 + 0) + 1)).bind fun x34 =>
    (H22.ldI .i64 ((((H.push (.cells [.int .i64 a0_0, .int .i64 a0_1, .int .i64 a0_2] false)).push (.cells [.int .i64 a1_0, .int .i64 a1_1] false)).push (.cells [.int .i64 a2_0, .int .i64 a2_1] false)).n) (0 + (0 : Int).toNat * 1)).bind fun x35 =>
    (r48 x35 1 H0).bind fun p36 =>
    (r68 x33 x34 p36.1.1 p36.1.2 H0).bind fun p37 =>
    (H22.sts (((((H.push (.cells [.int .i64 a0_0, .int .i64 a0_1, .int .i64 a0_2] false)).push (.cells [.int .i64 a1_0, .int .i64 a1_1] false)).push (.cells [.int .i64 a2_0, .int .i64 a2_1] false)).push (.cells [.int .i64 a3_0, .int .i64 a3_1] false)).n) 0 [.int .i64 x23, .int .i64 x24, .int .i64 x25, .int .i64 x26]).bind fun H38 =>
    (H38.ldI .i64 (((((H.push (.cells [.int .i64 a0_0, .int .i64 a0_1, .int .i64 a0_2] false)).push (.cells [.int .i64 a1_0, .int .i64 a1_1] false)).push (.cells [.int .i64 a2_0, .int .i64 a2_1] false)).push (.cells [.int .i64 a3_0, .int .i64 a3_1] false)).n) 0).bind fun x39 =>
    (H38.ldI .i64 (((((H.push (.cells [.int .i64 a0_0, .int .i64 a0_1, .int .i64 a0_2] false)).push (.cells [.int .i64 a1_0, .int .i64 a1_1] false)).push (.cells [.int .i64 a2_0, .int .i64 a2_1] false)).push (.cells [.int .i64 a3_0, .int .i64 a3_1] false)).n) (0 + 1)).bind fun x40 =>
    (H38.ldI .i64 (((((H.push (.cells [.int .i64 a0_0, .int .i64 a0_1, .int .i64 a0_2] false)).push (.cells [.int .i64 a1_0, .int .i64 a1_1] false)).push (.cells [.int .i64 a2_0, .int .i64 a2_1] false)).push (.cells [.int .i64 a3_0, .int .i64 a3_1] false)).n) (0 + 2)).bind fun x41 =>
    (H38.ldI .i64 (((((H.push (.cells [.int .i64 a0_0, .int .i64 a0_1, .int .i64 a0_2] false)).push (.cells [.int .i64 a1_0, .int .i64 a1_1] false)).push (.cells [.int .i64 a2_0, .int .i64 a2_1] false)).push (.cells [.int .i64 a3_0, .int .i64 a3_1] false)).n) (0 + 3)).bind fun x42 =>
    some ((x39, x40, x41, x42, (decide (p37.1 ≤ 0))), H38))
  else
    ((H22.sts (((((H.push (.cells [.int .i64 a0_0, .int .i64 a0_1, .int .i64 a0_2] false)).push (.cells [.int .i64 a1_0, .int .i64 a1_1] false)).push (.cells [.int .i64 a2_0, .int .i64 a2_1] false)).push (.cells [.int .i64 a3_0, .int .i64 a3_1] false)).n) 0 [.int .i64 x23, .int .i64 x24, .int .i64 x25, .int .i64 x26]).bind fun H43 =>
    (H43.ldI .i64 (((((H.push (.cells [.int .i64 a0_0, .int .i64 a0_1, .int .i64 a0_2] false)).push (.cells [.int .i64 a1_0, .int .i64 a1_1] false)).push (.cells [.int .i64 a2_0, .int .i64 a2_1] false)).push (.cells [.int .i64 a3_0, .int .i64 a3_1] false)).n) 0).bind fun x44 =>
    (H43.ldI .i64 (((((H.push (.cells [.int .i64 a0_0, .int .i64 a0_1, .int .i64 a0_2] false)).push (.cells [.int .i64 a1_0, .int .i64 a1_1] false)).push (.cells [.int .i64 a2_0, .int .i64 a2_1] false)).push (.cells [.int .i64 a3_0, .int .i64 a3_1] false)).n) (0 + 1)).bind fun x45 =>
    (H43.ldI .i64 (((((H.push (.cells [.int .i64 a0_0, .int .i64 a0_1, .int .i64 a0_2] false)).push (.cells [.int .i64 a1_0, .int .i64 a1_1] false)).push (.cells [.int .i64 a2_0, .int .i64 a2_1] false)).push (.cells [.int .i64 a3_0, .int .i64 a3_1] false)).n) (0 + 2)).bind fun x46 =>
    (H43.ldI .i64 (((((H.push (.cells [.int .i64 a0_0, .int .i64 a0_1, .int .i64 a0_2] false)).push (.cells [.int .i64 a1_0, .int .i64 a1_1] false)).push (.cells [.int .i64 a2_0, .int .i64 a2_1] false)).push (.cells [.int .i64 a3_0, .int .i64 a3_1] false)).n) (0 + 3)).bind fun x47 =>
    some ((x44, x45, x46, x47, false), H43))
/- 46 congou/deals.Product -/
def ret46 : Int × Int × Int × Int × Int → AV := fun r => .tup [.agg [.int .i64 r.1, .int .i64 r.2.1, .int .i64 r.2.2.1, .int .i64 r.2.2.2.1], .int .i64 r.2.2.2.2]
noncomputable def r46_l0 (app : App) : Nat → Nat → Nat → Sl → Sl → Nat → Nat → Nat → Nat → Sl → Int → Int → Hp → Option ((Int × Int × Int × Int × Int) × Hp)
  | 0, _, _, _, _, _, _, _, _, _, _, _, _ => none
  | k_ + 1, v1, v2, v3, v4, v5, v6, v7, v8, v9, v10, v11, H => if v11 < v10 then
    (ck ((0 : Int) ≤ v11 ∧ v11 < (v9.len : Int)) (
    (H.ldI .i64 v9.b (v9.o + (v11 : Int).toNat * 2)).bind fun x3 =>
    (H.ldI .i64 v9.b ((v9.o + (v11 : Int).toNat * 2) + 1)).bind fun x4 =>
    ((H.push (.cells [.int .i64 0, .int .i64 0] false)).sts H.n 0 [.int .i64 x3, .int .i64 x4]).bind fun H5 =>
    (H5.ldI .i64 H.n (0 + (0 : Int).toNat * 1)).bind fun x6 =>
    (r48 x6 1 H0).bind fun p7 =>
    (H5.ldI .i64 H.n (0 + (1 : Int).toNat * 1)).bind fun x8 =>
    (r48 x8 1 H0).bind fun p9 =>
    (callv app (.fn 66 [] [.ptr v6 0, .ptr v7 0, .ptr v8 0]) [.agg [.int .i64 p7.1.1, .int .i64 p7.1.2, .int .i64 p9.1.1, .int .i64 p9.1.2]] H5).bind fun p10 =>
    if 0 < v11 then
      ((r54 app v3 p10.2).bind fun p12 =>
      ck ((0 : Int) ≤ (w64 (v11 + 1)) ∧ (w64 (v11 + 1)) < (p12.1.len : Int)) (
      (p12.2.ldI .i64 p12.1.b (p12.1.o + (w64 (v11 + 1) : Int).toNat * 3)).bind fun x14 =>
      (p12.2.ldI .i64 p12.1.b ((p12.1.o + (w64 (v11 + 1) : Int).toNat * 3) + 1)).bind fun x15 =>
      (p12.2.ldI .i64 p12.1.b ((p12.1.o + (w64 (v11 + 1) : Int).toNat * 3) + 2)).bind fun x16 =>
      (p12.2.ldI .i64 v1 0).bind fun x17 =>
      (p12.2.ldI .i64 v1 (0 + 1)).bind fun x18 =>
      ck ((0 : Int) ≤ (w64 (v11 - 1)) ∧ (w64 (v11 - 1)) < (v4.len : Int)) (
      (p12.2.ldI .i64 v4.b (v4.o + (w64 (v11 - 1) : Int).toNat * 2)).bind fun x20 =>
      (p12.2.ldI .i64 v4.b ((v4.o + (w64 (v11 - 1) : Int).toNat * 2) + 1)).bind fun x21 =>
      (p12.2.ldI .i64 H.n 0).bind fun x22 =>
      (p12.2.ldI .i64 H.n (0 + 1)).bind fun x23 =>
      (r69 x14 x15 x16 x17 x18 x20 x21 x22 x23 H0).bind fun p24 =>
      ((p12.2.push (.cells [.int .i64 0, .int .i64 0, .int .i64 0, .int .i64 0] false)).sts p12.2.n 0 [.int .i64 p24.1.1, .int .i64 p24.1.2.1, .int .i64 p24.1.2.2.1, .int .i64 p24.1.2.2.2.1]).bind fun H25 =>
      ck (p10.2.ldI .i64 v1 0 = some x17) (
      ck (p10.2.ldI .i64 v1 (0 + 1) = some x18) (
      ck (p10.2.ldI .i64 v4.b (v4.o + (w64 (v11 - 1) : Int).toNat * 2) = some x20) (
      ck (p10.2.ldI .i64 v4.b ((v4.o + (w64 (v11 - 1) : Int).toNat * 2) + 1) = some x21) (
      ck (p10.2.ldI .i64 H.n 0 = some x22) (
      ck (p10.2.ldI .i64 H.n (0 + 1) = some x23) (
      ck ((p12.2.push (.cells [.int .i64 0, .int .i64 0, .int .i64 0, .int .i64 0] false)).ldI .i64 v1 0 = some x17) (
      ck ((p12.2.push (.cells [.int .i64 0, .int .i64 0, .int .i64 0, .int .i64 0] false)).ldI .i64 v1 (0 + 1) = some x18) (
      ck ((p12.2.push (.cells [.int .i64 0, .int .i64 0, .int .i64 0, .int .i64 0] false)).ldI .i64 v4.b (v4.o + (w64 (v11 - 1) : Int).toNat * 2) = some x20) (
      ck ((p12.2.push (.cells [.int .i64 0, .int .i64 0, .int .i64 0, .int .i64 0] false)).ldI .i64 v4.b ((v4.o + (w64 (v11 - 1) : Int).toNat * 2) + 1) = some x21) (
      ck ((p12.2.push (.cells [.int .i64 0, .int .i64 0, .int .i64 0, .int .i64 0] false)).ldI .i64 H.n 0 = some x22) (
      ck ((p12.2.push (.cells [.int .i64 0, .int .i64 0, .int .i64 0, .int .i64 0] false)).ldI .i64 H.n (0 + 1) = some x23) (
      if p24.1.2.2.2.2 = true then
        ((H25.ldI .i64 p12.2.n 0).bind fun x39 =>
        (H25.ldI .i64 p12.2.n (0 + 1)).bind fun x40 =>
        (H25.ldI .i64 p12.2.n (0 + 2)).bind fun x41 =>
        (H25.ldI .i64 p12.2.n (0 + 3)).bind fun x42 =>
        (callv app (.fn 66 [] [.ptr v6 0, .ptr v7 0, .ptr v8 0]) [.agg [.int .i64 x39, .int .i64 x40, .int .i64 x41, .int .i64 x42]] H25).bind fun p43 =>
        r46_l0 app k_ v1 v2 v3 v4 v5 v6 v7 v8 v9 v10 (w64 (v11 + 1)) p43.2)
      else
        (r46_l0 app k_ v1 v2 v3 v4 v5 v6 v7 v8 v9 v10 (w64 (v11 + 1)) H25))))))))))))))))
    else
      (r46_l0 app k_ v1 v2 v3 v4 v5 v6 v7 v8 v9 v10 (w64 (v11 + 1)) p10.2)))
  else
    ((H.ldI .i64 v5 0).bind fun x44 =>
    (H.ldI .i64 v5 (0 + 1)).bind fun x45 =>
    (H.ldI .i64 v5 (0 + 2)).bind fun x46 =>
    (H.ldI .i64 v5 (0 + 3)).bind fun x47 =>
    (H.sts v2 0 [.int .i64 x44, .int .i64 x45, .int .i64 x46, .int .i64 x47]).bind fun H48 =>
    (H48.ldI .i64 v2 0).bind fun x49 =>
    (H48.ldI .i64 v2 (0 + 1)).bind fun x50 =>
    (H48.ldI .i64 v2 (0 + 2)).bind fun x51 =>
    (H48.ldI .i64 v2 (0 + 3)).bind fun x52 =>
    some ((x49, x50, x51, x52, 0), H48))
noncomputable def r46 (app : App) (a0 : Sl) (a1_0 : Int) (a1_1 : Int) (H : Hp) : Option ((Int × Int × Int × Int × Int) × Hp) :=
  lt ((H.push (.cells [.int .i64 a1_0, .int .i64 a1_1] false)).push (.cells [.int .i64 0, .int .i64 0, .int .i64 0, .int .i64 0] false)) fun H1 =>
  (H1.ldI .i64 H.n 0).bind fun x2 =>
  (H1.ldI .i64 H.n (0 + 1)).bind fun x3 =>
  (r64 app a0 x2 x3 H1).bind fun p4 =>
  if p4.1.2 ≠ 0 then
    ((p4.2.sts ((H.push (.cells [.int .i64 a1_0, .int .i64 a1_1] false)).n) 0 [.int .i64 0, .int .i64 0, .int .i64 0, .int .i64 0]).bind fun H6 =>
    (H6.ldI .i64 ((H.push (.cells [.int .i64 a1_0, .int .i64 a1_1] false)).n) 0).bind fun x7 =>
    (H6.ldI .i64 ((H.push (.cells [.int .i64 a1_0, .int .i64 a1_1] false)).n) (0 + 1)).bind fun x8 =>
    (H6.ldI .i64 ((H.push (.cells [.int .i64 a1_0, .int .i64 a1_1] false)).n) (0 + 2)).bind fun x9 =>
    (H6.ldI .i64 ((H.push (.cells [.int .i64 a1_0, .int .i64 a1_1] false)).n) (0 + 3)).bind fun x10 =>
    some ((x7, x8, x9, x10, p4.1.2), H6))
  else
    ((r56 app p4.1.1 p4.2).bind fun p11 =>
    lt (p11.2.push (.cells [.int .i64 0, .int .i64 0, .int .i64 0, .int .i64 0] false)) fun H12 =>
    (r48 (-1) 1 H0).bind fun p13 =>
    ((H12.push (.cells [.int .i64 0, .int .i64 0] false)).sts H12.n 0 [.int .i64 p13.1.1, .int .i64 p13.1.2]).bind fun H14 =>
    r46_l0 app FUEL H.n ((H.push (.cells [.int .i64 a1_0, .int .i64 a1_1] false)).n) p4.1.1 p11.1 p11.2.n H.n H12.n p11.2.n p11.1 (p11.1.len : Int) 0 H14)
/- 77 (congou/deals.offers).reach -/
def ret77 : Int × Int → AV := fun r => .agg [.int .i64 r.1, .int .i64 r.2]
noncomputable def r77_j1 (app : App) (kt0 : Int → Nat → Nat → Nat → Sl → Int → Int → Hp → Option ((Int × Int) × Hp)) (v1 : Int) (v2 : Nat) (v3 : Nat) (v4 : Nat) (v5 : Nat) (v6 : Sl) (v7 : Int) (v8 : Int) (v9 : Bool) (H : Hp) : Option ((Int × Int) × Hp) :=
  if v9 = true then
    ((H.ldI .i64 v5 0).bind fun x2 =>
    (H.ldI .i64 v5 (0 + 1)).bind fun x3 =>
    (H.sts v4 0 [.int .i64 x2, .int .i64 x3]).bind fun H4 =>
    kt0 v1 v2 v3 v4 v6 v7 (w64 (v8 + 1)) H4)
  else
    (kt0 v1 v2 v3 v4 v6 v7 (w64 (v8 + 1)) H)
noncomputable def r77_l0 (app : App) : Nat → Int → Nat → Nat → Nat → Sl → Int → Int → Hp → Option ((Int × Int) × Hp)
  | 0, _, _, _, _, _, _, _, _ => none
  | k_ + 1, v1, v2, v3, v4, v5, v6, v7, H => if v7 < v6 then
    (ck ((0 : Int) ≤ v7 ∧ v7 < (v5.len : Int)) (
    (H.ldI .i64 v5.b (v5.o + (v7 : Int).toNat * 3)).bind fun x3 =>
    (H.ldI .i64 v5.b ((v5.o + (v7 : Int).toNat * 3) + 1)).bind fun x4 =>
    (H.ldI .i64 v5.b ((v5.o + (v7 : Int).toNat * 3) + 2)).bind fun x5 =>
    ((H.push (.cells [.int .i64 0, .int .i64 0, .int .i64 0] false)).sts H.n 0 [.int .i64 x3, .int .i64 x4, .int .i64 x5]).bind fun H6 =>
    (H6.ldI .i64 H.n (0 + 0)).bind fun x7 =>
    (H6.ldI .i64 H.n (0 + 1)).bind fun x8 =>
    ck ((0 : Int) ≤ v1 ∧ v1 < ((2 : Nat) : Int)) (
    (apart false 1 [.int .i64 x7, .int .i64 x8] ((v1 : Int).toNat * 1)).bind fun x10 =>
    (x10.asI .i64).bind fun x11 =>
    if x11 = 0 then
      (r77_l0 app k_ v1 v2 v3 v4 v5 v6 (w64 (v7 + 1)) H6)
    else
      ((H6.ldI .i64 H.n 0).bind fun x13 =>
      (H6.ldI .i64 H.n (0 + 1)).bind fun x14 =>
      (H6.ldI .i64 H.n (0 + 2)).bind fun x15 =>
      (H6.ldI .i64 v2 0).bind fun x16 =>
      (H6.ldI .i64 v2 (0 + 1)).bind fun x17 =>
      (r78 x13 x14 x15 x16 x17 H0).bind fun p18 =>
      (r48 p18.1 x11 H0).bind fun p19 =>
      ((H6.push (.cells [.int .i64 0, .int .i64 0] false)).sts H6.n 0 [.int .i64 p19.1.1, .int .i64 p19.1.2]).bind fun H20 =>
      (H20.ldI .i64 v4 (0 + 1)).bind fun x21 =>
      if x21 = 0 then
        (r77_j1 app (fun v1_ v2_ v3_ v4_ v5_ v6_ v7_ H_ => r77_l0 app k_ v1_ v2_ v3_ v4_ v5_ v6_ v7_ H_) v1 v2 v3 v4 H6.n v5 v6 v7 true H20)
      else
        ((H20.ldI .i64 H6.n 0).bind fun x23 =>
        (H20.ldI .i64 H6.n (0 + 1)).bind fun x24 =>
        (H20.ldI .i64 v4 0).bind fun x25 =>
        (H20.ldI .i64 v4 (0 + 1)).bind fun x26 =>
        (r68 x23 x24 x25 x26 H0).bind fun p27 =>
        r77_j1 app (fun v1_ v2_ v3_ v4_ v5_ v6_ v7_ H_ => r77_l0 app k_ v1_ v2_ v3_ v4_ v5_ v6_ v7_ H_) v1 v2 v3 v4 H6.n v5 v6 v7 (decide (p27.1 < 0)) H20)))))
  else
    ((H.ldI .i64 v4 0).bind fun x28 =>
    (H.ldI .i64 v4 (0 + 1)).bind fun x29 =>
    (H.sts v3 0 [.int .i64 x28, .int .i64 x29]).bind fun H30 =>
    (H30.ldI .i64 v3 0).bind fun x31 =>
    (H30.ldI .i64 v3 (0 + 1)).bind fun x32 =>
    some ((x31, x32), H30))
noncomputable def r77 (app : App) (a0 : Sl) (a1_0 : Int) (a1_1 : Int) (a2 : Int) (H : Hp) : Option ((Int × Int) × Hp) :=
  lt ((H.push (.cells [.int .i64 a1_0, .int .i64 a1_1] false)).push (.cells [.int .i64 0, .int .i64 0] false)) fun H1 =>
  ((H1.push (.cells [.int .i64 0, .int .i64 0] false)).sts H1.n 0 [.int .i64 0, .int .i64 0]).bind fun H2 =>
  (r54 app a0 H2).bind fun p3 =>
  r77_l0 app FUEL a2 H.n ((H.push (.cells [.int .i64 a1_0, .int .i64 a1_1] false)).n) H1.n p3.1 (p3.1.len : Int) 0 p3.2
/- 63 congou/deals.Best -/
def ret63 : Int × Int × Int × Int × Int → AV := fun r => .tup [.agg [.int .i64 r.1, .int .i64 r.2.1, .int .i64 r.2.2.1, .int .i64 r.2.2.2.1], .int .i64 r.2.2.2.2]
noncomputable def r63 (app : App) (a0 : Sl) (a1_0 : Int) (a1_1 : Int) (H : Hp) : Option ((Int × Int × Int × Int × Int) × Hp) :=
  lt ((H.push (.cells [.int .i64 a1_0, .int .i64 a1_1] false)).push (.cells [.int .i64 0, .int .i64 0, .int .i64 0, .int .i64 0] false)) fun H1 =>
  (H1.ldI .i64 H.n 0).bind fun x2 =>
  (H1.ldI .i64 H.n (0 + 1)).bind fun x3 =>
  (r64 app a0 x2 x3 H1).bind fun p4 =>
  if p4.1.2 ≠ 0 then
    ((p4.2.sts ((H.push (.cells [.int .i64 a1_0, .int .i64 a1_1] false)).n) 0 [.int .i64 0, .int .i64 0, .int .i64 0, .int .i64 0]).bind fun H6 =>
    (H6.ldI .i64 ((H.push (.cells [.int .i64 a1_0, .int .i64 a1_1] false)).n) 0).bind fun x7 =>
    (H6.ldI .i64 ((H.push (.cells [.int .i64 a1_0, .int .i64 a1_1] false)).n) (0 + 1)).bind fun x8 =>
    (H6.ldI .i64 ((H.push (.cells [.int .i64 a1_0, .int .i64 a1_1] false)).n) (0 + 2)).bind fun x9 =>
    (H6.ldI .i64 ((H.push (.cells [.int .i64 a1_0, .int .i64 a1_1] false)).n) (0 + 3)).bind fun x10 =>
    some ((x7, x8, x9, x10, p4.1.2), H6))
  else
    ((p4.2.ldI .i64 H.n 0).bind fun x11 =>
    (p4.2.ldI .i64 H.n (0 + 1)).bind fun x12 =>
    (p4.2.ldI .i64 H.n 0).bind fun x13 =>
    (p4.2.ldI .i64 H.n (0 + 1)).bind fun x14 =>
    (r77 app p4.1.1 x13 x14 0 p4.2).bind fun p15 =>
    (p15.2.ldI .i64 H.n 0).bind fun x16 =>
    (p15.2.ldI .i64 H.n (0 + 1)).bind fun x17 =>
    (r77 app p4.1.1 x16 x17 1 p15.2).bind fun p18 =>
    (r65 app p4.1.1 x11 x12 p15.1.1 p15.1.2 p18.1.1 p18.1.2 p18.2).bind fun p19 =>
    (p19.2.sts ((H.push (.cells [.int .i64 a1_0, .int .i64 a1_1] false)).n) 0 [.int .i64 p19.1.1, .int .i64 p19.1.2.1, .int .i64 p19.1.2.2.1, .int .i64 p19.1.2.2.2]).bind fun H20 =>
    ck (p4.2.ldI .i64 H.n 0 = some x16) (
    ck (p4.2.ldI .i64 H.n (0 + 1) = some x17) (
    ck (p15.2.ldI .i64 H.n 0 = some x11) (
    ck (p15.2.ldI .i64 H.n (0 + 1) = some x12) (
    ck (p18.2.ldI .i64 H.n 0 = some x11) (
    ck (p18.2.ldI .i64 H.n (0 + 1) = some x12) (
    ck (p18.2.ldI .i64 H.n 0 = some x16) (
    ck (p18.2.ldI .i64 H.n (0 + 1) = some x17) (
    (H20.ldI .i64 ((H.push (.cells [.int .i64 a1_0, .int .i64 a1_1] false)).n) 0).bind fun x29 =>
    (H20.ldI .i64 ((H.push (.cells [.int .i64 a1_0, .int .i64 a1_1] false)).n) (0 + 1)).bind fun x30 =>
    (H20.ldI .i64 ((H.push (.cells [.int .i64 a1_0, .int .i64 a1_1] false)).n) (0 + 2)).bind fun x31 =>
    (H20.ldI .i64 ((H.push (.cells [.int .i64 a1_0, .int .i64 a1_1] false)).n) (0 + 3)).bind fun x32 =>
    some ((x29, x30, x31, x32, 0), H20))))))))))
/- 39 congou/congoulaw05.rules -/
def ret39 : Int × Int × Int × Int × Int × Int × Int × Int × Int × Int × Int × Int × Bool × Bool → AV := fun r => .tup [.agg [.int .i64 r.1, .int .i64 r.2.1, .int .i64 r.2.2.1, .int .i64 r.2.2.2.1, .int .i64 r.2.2.2.2.1, .int .i64 r.2.2.2.2.2.1, .int .i64 r.2.2.2.2.2.2.1, .int .i64 r.2.2.2.2.2.2.2.1, .int .i64 r.2.2.2.2.2.2.2.2.1, .int .i64 r.2.2.2.2.2.2.2.2.2.1, .int .i64 r.2.2.2.2.2.2.2.2.2.2.1, .int .i64 r.2.2.2.2.2.2.2.2.2.2.2.1], .bool r.2.2.2.2.2.2.2.2.2.2.2.2.1, .bool r.2.2.2.2.2.2.2.2.2.2.2.2.2]
noncomputable def r39_j0 (app : App) (v1 : Nat) (v2 : Nat) (v3 : Int) (v4 : Nat) (v5 : Nat) (v6 : Nat) (v7 : Bool) (H : Hp) : Option ((Int × Int × Int × Int × Int × Int × Int × Int × Int × Int × Int × Int × Bool × Bool) × Hp) :=
  if v7 = true then
    ((H.ldI .i64 v6 0).bind fun x2 =>
    (H.ldI .i64 v6 (0 + 1)).bind fun x3 =>
    (H.ldI .i64 v6 (0 + 2)).bind fun x4 =>
    (H.ldI .i64 v6 (0 + 3)).bind fun x5 =>
    (H.ldI .i64 v6 (0 + 4)).bind fun x6 =>
    (H.ldI .i64 v6 (0 + 5)).bind fun x7 =>
    (H.ldI .i64 v6 (0 + 6)).bind fun x8 =>
    (H.ldI .i64 v6 (0 + 7)).bind fun x9 =>
    (H.ldI .i64 v6 (0 + 8)).bind fun x10 =>
    (H.ldI .i64 v6 (0 + 9)).bind fun x11 =>
    (H.ldI .i64 v6 (0 + 10)).bind fun x12 =>
    (H.ldI .i64 v6 (0 + 11)).bind fun x13 =>
    (H.sts v1 0 [.int .i64 x2, .int .i64 x3, .int .i64 x4, .int .i64 x5, .int .i64 x6, .int .i64 x7, .int .i64 x8, .int .i64 x9, .int .i64 x10, .int .i64 x11, .int .i64 x12, .int .i64 x13]).bind fun H14 =>
    (H14.ldI .i64 v1 0).bind fun x15 =>
    (H14.ldI .i64 v1 (0 + 1)).bind fun x16 =>
    (H14.ldI .i64 v1 (0 + 2)).bind fun x17 =>
    (H14.ldI .i64 v1 (0 + 3)).bind fun x18 =>
    (H14.ldI .i64 v1 (0 + 4)).bind fun x19 =>
    (H14.ldI .i64 v1 (0 + 5)).bind fun x20 =>
    (H14.ldI .i64 v1 (0 + 6)).bind fun x21 =>
    (H14.ldI .i64 v1 (0 + 7)).bind fun x22 =>
    (H14.ldI .i64 v1 (0 + 8)).bind fun x23 =>
    (H14.ldI .i64 v1 (0 + 9)).bind fun x24 =>
    (H14.ldI .i64 v1 (0 + 10)).bind fun x25 =>
    (H14.ldI .i64 v1 (0 + 11)).bind fun x26 =>
    some ((x15, x16, x17, x18, x19, x20, x21, x22, x23, x24, x25, x26, false, false), H14))
  else
    (if v3 ≠ 0 then
      ((H.ldI .i64 v6 0).bind fun x28 =>
      (H.ldI .i64 v6 (0 + 1)).bind fun x29 =>
      (H.ldI .i64 v6 (0 + 2)).bind fun x30 =>
      (H.ldI .i64 v6 (0 + 3)).bind fun x31 =>
      (H.ldI .i64 v6 (0 + 4)).bind fun x32 =>
      (H.ldI .i64 v6 (0 + 5)).bind fun x33 =>
      (H.ldI .i64 v6 (0 + 6)).bind fun x34 =>
      (H.ldI .i64 v6 (0 + 7)).bind fun x35 =>
      (H.ldI .i64 v6 (0 + 8)).bind fun x36 =>
      (H.ldI .i64 v6 (0 + 9)).bind fun x37 =>
      (H.ldI .i64 v6 (0 + 10)).bind fun x38 =>
      (H.ldI .i64 v6 (0 + 11)).bind fun x39 =>
      if v3 = 4 then
        ((H.sts v1 0 [.int .i64 x28, .int .i64 x29, .int .i64 x30, .int .i64 x31, .int .i64 x32, .int .i64 x33, .int .i64 x34, .int .i64 x35, .int .i64 x36, .int .i64 x37, .int .i64 x38, .int .i64 x39]).bind fun H41 =>
        (H41.ldI .i64 v1 0).bind fun x42 =>
        (H41.ldI .i64 v1 (0 + 1)).bind fun x43 =>
        (H41.ldI .i64 v1 (0 + 2)).bind fun x44 =>
        (H41.ldI .i64 v1 (0 + 3)).bind fun x45 =>
        (H41.ldI .i64 v1 (0 + 4)).bind fun x46 =>
        (H41.ldI .i64 v1 (0 + 5)).bind fun x47 =>
        (H41.ldI .i64 v1 (0 + 6)).bind fun x48 =>
        (H41.ldI .i64 v1 (0 + 7)).bind fun x49 =>
        (H41.ldI .i64 v1 (0 + 8)).bind fun x50 =>
        (H41.ldI .i64 v1 (0 + 9)).bind fun x51 =>
        (H41.ldI .i64 v1 (0 + 10)).bind fun x52 =>
        (H41.ldI .i64 v1 (0 + 11)).bind fun x53 =>
        some ((x42, x43, x44, x45, x46, x47, x48, x49, x50, x51, x52, x53, false, true), H41))
      else
        ((H.sts v1 0 [.int .i64 x28, .int .i64 x29, .int .i64 x30, .int .i64 x31, .int .i64 x32, .int .i64 x33, .int .i64 x34, .int .i64 x35, .int .i64 x36, .int .i64 x37, .int .i64 x38, .int .i64 x39]).bind fun H54 =>
        (H54.ldI .i64 v1 0).bind fun x55 =>
        (H54.ldI .i64 v1 (0 + 1)).bind fun x56 =>
        (H54.ldI .i64 v1 (0 + 2)).bind fun x57 =>
        (H54.ldI .i64 v1 (0 + 3)).bind fun x58 =>
        (H54.ldI .i64 v1 (0 + 4)).bind fun x59 =>
        (H54.ldI .i64 v1 (0 + 5)).bind fun x60 =>
        (H54.ldI .i64 v1 (0 + 6)).bind fun x61 =>
        (H54.ldI .i64 v1 (0 + 7)).bind fun x62 =>
        (H54.ldI .i64 v1 (0 + 8)).bind fun x63 =>
        (H54.ldI .i64 v1 (0 + 9)).bind fun x64 =>
        (H54.ldI .i64 v1 (0 + 10)).bind fun x65 =>
        (H54.ldI .i64 v1 (0 + 11)).bind fun x66 =>
        some ((x55, x56, x57, x58, x59, x60, x61, x62, x63, x64, x65, x66, false, (decide (v3 = 2))), H54)))
    else
      ((H.ldI .i64 v6 0).bind fun x67 =>
      (H.ldI .i64 v6 (0 + 1)).bind fun x68 =>
      (H.ldI .i64 v6 (0 + 2)).bind fun x69 =>
      (H.ldI .i64 v6 (0 + 3)).bind fun x70 =>
      (H.ldI .i64 v6 (0 + 4)).bind fun x71 =>
      (H.ldI .i64 v6 (0 + 5)).bind fun x72 =>
      (H.ldI .i64 v6 (0 + 6)).bind fun x73 =>
      (H.ldI .i64 v6 (0 + 7)).bind fun x74 =>
      (H.ldI .i64 v6 (0 + 8)).bind fun x75 =>
      (H.ldI .i64 v6 (0 + 9)).bind fun x76 =>
      (H.ldI .i64 v6 (0 + 10)).bind fun x77 =>
      (H.ldI .i64 v6 (0 + 11)).bind fun x78 =>
      (H.ldI .i64 v2 0).bind fun x79 =>
      (H.ldI .i64 v2 (0 + 1)).bind fun x80 =>
      (H.ldI .i64 v2 (0 + 2)).bind fun x81 =>
      (H.ldI .i64 v2 (0 + 3)).bind fun x82 =>
      (r42 x79 x80 x81 x82 H).bind fun p83 =>
      if p83.1 = true then
        ((p83.2.ldI .i64 v4 0).bind fun x85 =>
        (p83.2.ldI .i64 v4 (0 + 1)).bind fun x86 =>
        (p83.2.ldI .i64 v4 (0 + 2)).bind fun x87 =>
        (p83.2.ldI .i64 v4 (0 + 3)).bind fun x88 =>
        (r42 x85 x86 x87 x88 p83.2).bind fun p89 =>
        if p89.1 = true then
          ((p89.2.ldI .i64 v5 0).bind fun x91 =>
          (p89.2.ldI .i64 v5 (0 + 1)).bind fun x92 =>
          (p89.2.ldI .i64 v5 (0 + 2)).bind fun x93 =>
          (p89.2.ldI .i64 v5 (0 + 3)).bind fun x94 =>
          (r42 x91 x92 x93 x94 p89.2).bind fun p95 =>
          (p95.2.sts v1 0 [.int .i64 x67, .int .i64 x68, .int .i64 x69, .int .i64 x70, .int .i64 x71, .int .i64 x72, .int .i64 x73, .int .i64 x74, .int .i64 x75, .int .i64 x76, .int .i64 x77, .int .i64 x78]).bind fun H96 =>
          ck (p83.2.ldI .i64 v6 0 = some x67) (
          ck (p83.2.ldI .i64 v6 (0 + 1) = some x68) (
          ck (p83.2.ldI .i64 v6 (0 + 2) = some x69) (
          ck (p83.2.ldI .i64 v6 (0 + 3) = some x70) (
          ck (p83.2.ldI .i64 v6 (0 + 4) = some x71) (
          ck (p83.2.ldI .i64 v6 (0 + 5) = some x72) (
          ck (p83.2.ldI .i64 v6 (0 + 6) = some x73) (
          ck (p83.2.ldI .i64 v6 (0 + 7) = some x74) (
          ck (p83.2.ldI .i64 v6 (0 + 8) = some x75) (
          ck (p83.2.ldI .i64 v6 (0 + 9) = some x76) (
          ck (p83.2.ldI .i64 v6 (0 + 10) = some x77) (
          ck (p83.2.ldI .i64 v6 (0 + 11) = some x78) (
          ck (p89.2.ldI .i64 v6 0 = some x67) (
          ck (p89.2.ldI .i64 v6 (0 + 1) = some x68) (
          ck (p89.2.ldI .i64 v6 (0 + 2) = some x69) (
          ck (p89.2.ldI .i64 v6 (0 + 3) = some x70) (
          ck (p89.2.ldI .i64 v6 (0 + 4) = some x71) (
          ck (p89.2.ldI .i64 v6 (0 + 5) = some x72) (
          ck (p89.2.ldI .i64 v6 (0 + 6) = some x73) (
          ck (p89.2.ldI .i64 v6 (0 + 7) = some x74) (
          ck (p89.2.ldI .i64 v6 (0 + 8) = some x75) (
          ck (p89.2.ldI .i64 v6 (0 + 9) = some x76) (
          ck (p89.2.ldI .i64 v6 (0 + 10) = some x77) (
          ck (p89.2.ldI .i64 v6 (0 + 11) = some x78) (
          ck (p95.2.ldI .i64 v6 0 = some x67) (
          ck (p95.2.ldI .i64 v6 (0 + 1) = some x68) (
          ck (p95.2.ldI .i64 v6 (0 + 2) = some x69) (
          ck (p95.2.ldI .i64 v6 (0 + 3) = some x70) (
          ck (p95.2.ldI .i64 v6 (0 + 4) = some x71) (
          ck (p95.2.ldI .i64 v6 (0 + 5) = some x72) (
          ck (p95.2.ldI .i64 v6 (0 + 6) = some x73) (
          ck (p95.2.ldI .i64 v6 (0 + 7) = some x74) (
          ck (p95.2.ldI .i64 v6 (0 + 8) = some x75) (
          ck (p95.2.ldI .i64 v6 (0 + 9) = some x76) (
          ck (p95.2.ldI .i64 v6 (0 + 10) = some x77) (
          ck (p95.2.ldI .i64 v6 (0 + 11) = some x78) (
          (H96.ldI .i64 v1 0).bind fun x133 =>
          (H96.ldI .i64 v1 (0 + 1)).bind fun x134 =>
          (H96.ldI .i64 v1 (0 + 2)).bind fun x135 =>
          (H96.ldI .i64 v1 (0 + 3)).bind fun x136 =>
          (H96.ldI .i64 v1 (0 + 4)).bind fun x137 =>
          (H96.ldI .i64 v1 (0 + 5)).bind fun x138 =>
          (H96.ldI .i64 v1 (0 + 6)).bind fun x139 =>
          (H96.ldI .i64 v1 (0 + 7)).bind fun x140 =>
          (H96.ldI .i64 v1 (0 + 8)).bind fun x141 =>
          (H96.ldI .i64 v1 (0 + 9)).bind fun x142 =>
          (H96.ldI .i64 v1 (0 + 10)).bind fun x143 =>
          (H96.ldI .i64 v1 (0 + 11)).bind fun x144 =>
          some ((x133, x134, x135, x136, x137, x138, x139, x140, x141, x142, x143, x144, true, p95.1), H96))))))))))))))))))))))))))))))))))))))
        else
          ((p89.2.sts v1 0 [.int .i64 x67, .int .i64 x68, .int .i64 x69, .int .i64 x70, .int .i64 x71, .int .i64 x72, .int .i64 x73, .int .i64 x74, .int .i64 x75, .int .i64 x76, .int .i64 x77, .int .i64 x78]).bind fun H145 =>
          ck (p83.2.ldI .i64 v6 0 = some x67) (
          ck (p83.2.ldI .i64 v6 (0 + 1) = some x68) (
          ck (p83.2.ldI .i64 v6 (0 + 2) = some x69) (
          ck (p83.2.ldI .i64 v6 (0 + 3) = some x70) (
          ck (p83.2.ldI .i64 v6 (0 + 4) = some x71) (
          ck (p83.2.ldI .i64 v6 (0 + 5) = some x72) (
          ck (p83.2.ldI .i64 v6 (0 + 6) = some x73) (
          ck (p83.2.ldI .i64 v6 (0 + 7) = some x74) (
          ck (p83.2.ldI .i64 v6 (0 + 8) = some x75) (
          ck (p83.2.ldI .i64 v6 (0 + 9) = some x76) (
          ck (p83.2.ldI .i64 v6 (0 + 10) = some x77) (
          ck (p83.2.ldI .i64 v6 (0 + 11) = some x78) (
          ck (p89.2.ldI .i64 v6 0 = some x67) (
          ck (p89.2.ldI .i64 v6 (0 + 1) = some x68) (
          ck (p89.2.ldI .i64 v6 (0 + 2) = some x69) (
          ck (p89.2.ldI .i64 v6 (0 + 3) = some x70) (
          ck (p89.2.ldI .i64 v6 (0 + 4) = some x71) (
          ck (p89.2.ldI .i64 v6 (0 + 5) = some x72) (
          ck (p89.2.ldI .i64 v6 (0 + 6) = some x73) (
          ck (p89.2.ldI .i64 v6 (0 + 7) = some x74) (
          ck (p89.2.ldI .i64 v6 (0 + 8) = some x75) (
          ck (p89.2.ldI .i64 v6 (0 + 9) = some x76) (
          ck (p89.2.ldI .i64 v6 (0 + 10) = some x77) (
          ck (p89.2.ldI .i64 v6 (0 + 11) = some x78) (
          (H145.ldI .i64 v1 0).bind fun x170 =>
          (H145.ldI .i64 v1 (0 + 1)).bind fun x171 =>
          (H145.ldI .i64 v1 (0 + 2)).bind fun x172 =>
          (H145.ldI .i64 v1 (0 + 3)).bind fun x173 =>
          (H145.ldI .i64 v1 (0 + 4)).bind fun x174 =>
          (H145.ldI .i64 v1 (0 + 5)).bind fun x175 =>
          (H145.ldI .i64 v1 (0 + 6)).bind fun x176 =>
          (H145.ldI .i64 v1 (0 + 7)).bind fun x177 =>
          (H145.ldI .i64 v1 (0 + 8)).bind fun x178 =>
          (H145.ldI .i64 v1 (0 + 9)).bind fun x179 =>
          (H145.ldI .i64 v1 (0 + 10)).bind fun x180 =>
          (H145.ldI .i64 v1 (0 + 11)).bind fun x181 =>
          some ((x170, x171, x172, x173, x174, x175, x176, x177, x178, x179, x180, x181, true, false), H145)))))))))))))))))))))))))))
      else
        ((p83.2.sts v1 0 [.int .i64 x67, .int .i64 x68, .int .i64 x69, .int .i64 x70, .int .i64 x71, .int .i64 x72, .int .i64 x73, .int .i64 x74, .int .i64 x75, .int .i64 x76, .int .i64 x77, .int .i64 x78]).bind fun H182 =>
        ck (p83.2.ldI .i64 v6 0 = some x67) (
        ck (p83.2.ldI .i64 v6 (0 + 1) = some x68) (
        ck (p83.2.ldI .i64 v6 (0 + 2) = some x69) (
        ck (p83.2.ldI .i64 v6 (0 + 3) = some x70) (
        ck (p83.2.ldI .i64 v6 (0 + 4) = some x71) (
        ck (p83.2.ldI .i64 v6 (0 + 5) = some x72) (
        ck (p83.2.ldI .i64 v6 (0 + 6) = some x73) (
        ck (p83.2.ldI .i64 v6 (0 + 7) = some x74) (
        ck (p83.2.ldI .i64 v6 (0 + 8) = some x75) (
        ck (p83.2.ldI .i64 v6 (0 + 9) = some x76) (
        ck (p83.2.ldI .i64 v6 (0 + 10) = some x77) (
        ck (p83.2.ldI .i64 v6 (0 + 11) = some x78) (
        (H182.ldI .i64 v1 0).bind fun x195 =>
        (H182.ldI .i64 v1 (0 + 1)).bind fun x196 =>
        (H182.ldI .i64 v1 (0 + 2)).bind fun x197 =>
        (H182.ldI .i64 v1 (0 + 3)).bind fun x198 =>
        (H182.ldI .i64 v1 (0 + 4)).bind fun x199 =>
        (H182.ldI .i64 v1 (0 + 5)).bind fun x200 =>
        (H182.ldI .i64 v1 (0 + 6)).bind fun x201 =>
        (H182.ldI .i64 v1 (0 + 7)).bind fun x202 =>
        (H182.ldI .i64 v1 (0 + 8)).bind fun x203 =>
        (H182.ldI .i64 v1 (0 + 9)).bind fun x204 =>
        (H182.ldI .i64 v1 (0 + 10)).bind fun x205 =>
        (H182.ldI .i64 v1 (0 + 11)).bind fun x206 =>
        some ((x195, x196, x197, x198, x199, x200, x201, x202, x203, x204, x205, x206, true, false), H182))))))))))))))))
noncomputable def r39 (app : App) (a0 : Sl) (a1_0 : Int) (a1_1 : Int) (H : Hp) : Option ((Int × Int × Int × Int × Int × Int × Int × Int × Int × Int × Int × Int × Bool × Bool) × Hp) :=
  lt ((H.push (.cells [.int .i64 a1_0, .int .i64 a1_1] false)).push (.cells [.int .i64 0, .int .i64 0, .int .i64 0, .int .i64 0, .int .i64 0, .int .i64 0, .int .i64 0, .int .i64 0, .int .i64 0, .int .i64 0, .int .i64 0, .int .i64 0] false)) fun H1 =>
  (r24 a0 H1).bind fun p2 =>
  (p2.2.ldI .i64 H.n 0).bind fun x3 =>
  (p2.2.ldI .i64 H.n (0 + 1)).bind fun x4 =>
  (r46 app p2.1 x3 x4 p2.2).bind fun p5 =>
  ((p5.2.push (.cells [.int .i64 0, .int .i64 0, .int .i64 0, .int .i64 0] false)).sts p5.2.n 0 [.int .i64 p5.1.1, .int .i64 p5.1.2.1, .int .i64 p5.1.2.2.1, .int .i64 p5.1.2.2.2.1]).bind fun H6 =>
  ck (H1.ldI .i64 H.n 0 = some x3) (
  ck (H1.ldI .i64 H.n (0 + 1) = some x4) (
  (r24 a0 H6).bind fun p9 =>
  (p9.2.ldI .i64 H.n 0).bind fun x10 =>
  (p9.2.ldI .i64 H.n (0 + 1)).bind fun x11 =>
  (r63 app p9.1 x10 x11 p9.2).bind fun p12 =>
  ((p12.2.push (.cells [.int .i64 0, .int .i64 0, .int .i64 0, .int .i64 0] false)).sts p12.2.n 0 [.int .i64 p12.1.1, .int .i64 p12.1.2.1, .int .i64 p12.1.2.2.1, .int .i64 p12.1.2.2.2.1]).bind fun H13 =>
  ck (H6.ldI .i64 H.n 0 = some x10) (
  ck (H6.ldI .i64 H.n (0 + 1) = some x11) (
  (r24 a0 H13).bind fun p16 =>
  (p16.2.ldI .i64 H.n 0).bind fun x17 =>
  (p16.2.ldI .i64 H.n (0 + 1)).bind fun x18 =>
  (r40 app p16.1 x17 x18 p16.2).bind fun p19 =>
  ((p19.2.push (.cells [.int .i64 0, .int .i64 0, .int .i64 0, .int .i64 0] false)).sts p19.2.n 0 [.int .i64 p19.1.1, .int .i64 p19.1.2.1, .int .i64 p19.1.2.2.1, .int .i64 p19.1.2.2.2.1]).bind fun H20 =>
  ck (H13.ldI .i64 H.n 0 = some x17) (
  ck (H13.ldI .i64 H.n (0 + 1) = some x18) (
  (H20.ldI .i64 p5.2.n 0).bind fun x23 =>
  (H20.ldI .i64 p5.2.n (0 + 1)).bind fun x24 =>
  (H20.ldI .i64 p5.2.n (0 + 2)).bind fun x25 =>
  (H20.ldI .i64 p5.2.n (0 + 3)).bind fun x26 =>
  (H20.ldI .i64 p12.2.n 0).bind fun x27 =>
  (H20.ldI .i64 p12.2.n (0 + 1)).bind fun x28 =>
  (H20.ldI .i64 p12.2.n (0 + 2)).bind fun x29 =>
  (H20.ldI .i64 p12.2.n (0 + 3)).bind fun x30 =>
  (H20.ldI .i64 p19.2.n 0).bind fun x31 =>
  (H20.ldI .i64 p19.2.n (0 + 1)).bind fun x32 =>
  (H20.ldI .i64 p19.2.n (0 + 2)).bind fun x33 =>
  (H20.ldI .i64 p19.2.n (0 + 3)).bind fun x34 =>
  ((H20.push (.cells [.int .i64 0, .int .i64 0, .int .i64 0, .int .i64 0, .int .i64 0, .int .i64 0, .int .i64 0, .int .i64 0, .int .i64 0, .int .i64 0, .int .i64 0, .int .i64 0] false)).sts H20.n 0 [.int .i64 x23, .int .i64 x24, .int .i64 x25, .int .i64 x26, .int .i64 x27, .int .i64 x28, .int .i64 x29, .int .i64 x30, .int .i64 x31, .int .i64 x32, .int .i64 x33, .int .i64 x34]).bind fun H35 =>
  if p5.1.2.2.2.2 ≠ p12.1.2.2.2.2 then
    (r39_j0 app ((H.push (.cells [.int .i64 a1_0, .int .i64 a1_1] false)).n) p5.2.n p5.1.2.2.2.2 p12.2.n p19.2.n H20.n true H35)
  else
    (r39_j0 app ((H.push (.cells [.int .i64 a1_0, .int .i64 a1_1] false)).n) p5.2.n p5.1.2.2.2.2 p12.2.n p19.2.n H20.n (decide (p5.1.2.2.2.2 ≠ p19.1.2.2.2.2)) H35)))))))
end Go.Lt.P5
