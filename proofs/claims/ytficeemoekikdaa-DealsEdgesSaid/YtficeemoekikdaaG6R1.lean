/- PRINTED BY A PROGRAM OF OURS: what each function that 'DealsEdges' reaches computes on the abstract heap, and that the translated code does just that. Nothing is asked of the input. -/
import Derived.Test.YtficeemoekikdaaG6R0
set_option linter.unusedVariables false
set_option linter.unusedSimpArgs false
set_option maxRecDepth 100000
set_option maxHeartbeats 4000000
namespace Go.Lt.P5
open Go Go.Lt Go.Proofs
/- 54 (congou/deals.offers).lines -/
def ret54 : Sl → AV := fun r => .sl r
noncomputable def r54_l0 (app : App) : Nat → Sl → Sl → Int → Hp → Option (Sl × Hp)
  | 0, _, _, _, _ => none
  | k_ + 1, v1, v2, v3, H => if v3 < (v1.len : Int) then
    (ck ((0 : Int) ≤ (w64 (v3 - 1)) ∧ (w64 (v3 - 1)) < (v1.len : Int)) (
    (H.ldI .i64 v1.b ((v1.o + (w64 (v3 - 1) : Int).toNat * 2) + (1 : Int).toNat * 1)).bind fun x3 =>
    ck ((0 : Int) ≤ v3 ∧ v3 < (v1.len : Int)) (
    (H.ldI .i64 v1.b ((v1.o + (v3 : Int).toNat * 2) + (1 : Int).toNat * 1)).bind fun x5 =>
    ck ((0 : Int) ≤ v3 ∧ v3 < (v1.len : Int)) (
    (H.ldI .i64 v1.b ((v1.o + (v3 : Int).toNat * 2) + (0 : Int).toNat * 1)).bind fun x7 =>
    ck ((0 : Int) ≤ (w64 (v3 - 1)) ∧ (w64 (v3 - 1)) < (v1.len : Int)) (
    (H.ldI .i64 v1.b ((v1.o + (w64 (v3 - 1) : Int).toNat * 2) + (0 : Int).toNat * 1)).bind fun x9 =>
    ck ((0 : Int) ≤ v3 ∧ v3 < (v1.len : Int)) (
    (H.ldI .i64 v1.b ((v1.o + (v3 : Int).toNat * 2) + (0 : Int).toNat * 1)).bind fun x11 =>
    ck ((0 : Int) ≤ v3 ∧ v3 < (v1.len : Int)) (
    (H.ldI .i64 v1.b ((v1.o + (v3 : Int).toNat * 2) + (1 : Int).toNat * 1)).bind fun x13 =>
    (H.apN 3 v2 [.int .i64 (w64 (x3 - x5)), .int .i64 (w64 (x7 - x9)), .int .i64 (w64 ((w64 ((w64 (x3 - x5)) * x11)) + (w64 ((w64 (x7 - x9)) * x13))))] 1).bind fun x14 =>
    r54_l0 app k_ v1 x14.1 (w64 (v3 + 1)) x14.2)))))))
  else
    (some (v2, H))
noncomputable def r54 (app : App) (a0 : Sl) (H : Hp) : Option (Sl × Hp) :=
  (r56 app a0 H).bind fun p1 =>
  ck ((0 : Int) ≤ 0 ∧ 0 < (p1.1.len : Int)) (
  (p1.2.ldI .i64 p1.1.b ((p1.1.o + (0 : Int).toNat * 2) + (1 : Int).toNat * 1)).bind fun x3 =>
  ck ((0 : Int) ≤ (w64 ((p1.1.len : Int) - 1)) ∧ (w64 ((p1.1.len : Int) - 1)) < (p1.1.len : Int)) (
  (p1.2.ldI .i64 p1.1.b ((p1.1.o + (w64 ((p1.1.len : Int) - 1) : Int).toNat * 2) + (0 : Int).toNat * 1)).bind fun x5 =>
  lt (p1.2.push (.cells [.int .i64 0, .int .i64 1, .int .i64 x3, .int .i64 1, .int .i64 0, .int .i64 x5] false)) fun H6 =>
  r54_l0 app FUEL p1.1 ⟨false, p1.2.n, 0, 2, 2, 0⟩ 1 H6))
/- 78 (congou/deals.line).rest -/
def ret78 : Int → AV := fun r => .int .i64 r
noncomputable def r78 (a0_0 : Int) (a0_1 : Int) (a0_2 : Int) (a1_0 : Int) (a1_1 : Int) (H : Hp) : Option (Int × Hp) :=
  lt ((H.push (.cells [.int .i64 a0_0, .int .i64 a0_1, .int .i64 a0_2] false)).push (.cells [.int .i64 a1_0, .int .i64 a1_1] false)) fun H1 =>
  (H1.ldI .i64 H.n (0 + 2)).bind fun x2 =>
  (H1.ldI .i64 H.n (0 + 0)).bind fun x3 =>
  (H1.ldI .i64 ((H.push (.cells [.int .i64 a0_0, .int .i64 a0_1, .int .i64 a0_2] false)).n) (0 + (0 : Int).toNat * 1)).bind fun x4 =>
  (H1.ldI .i64 H.n (0 + 1)).bind fun x5 =>
  (H1.ldI .i64 ((H.push (.cells [.int .i64 a0_0, .int .i64 a0_1, .int .i64 a0_2] false)).n) (0 + (1 : Int).toNat * 1)).bind fun x6 =>
  some (w64 ((w64 (x2 - (w64 (x3 * x4)))) - (w64 (x5 * x6))), H1)
/- 64 congou/deals.read -/
def ret64 : Sl × Int → AV := fun r => .tup [.sl r.1, .int .i64 r.2]
noncomputable def r64_l0 (app : App) : Nat → Nat → Sl → Sl → Int → Int → Hp → Option ((Sl × Int) × Hp)
  | 0, _, _, _, _, _, _ => none
  | k_ + 1, v1, v2, v3, v4, v5, H => if v5 < v4 then
    (ck ((0 : Int) ≤ v5 ∧ v5 < (v3.len : Int)) (
    (H.ldI .i64 v3.b (v3.o + (v5 : Int).toNat * 3)).bind fun x3 =>
    (H.ldI .i64 v3.b ((v3.o + (v5 : Int).toNat * 3) + 1)).bind fun x4 =>
    (H.ldI .i64 v3.b ((v3.o + (v5 : Int).toNat * 3) + 2)).bind fun x5 =>
    ((H.push (.cells [.int .i64 0, .int .i64 0, .int .i64 0] false)).sts H.n 0 [.int .i64 x3, .int .i64 x4, .int .i64 x5]).bind fun H6 =>
    (H6.ldI .i64 H.n 0).bind fun x7 =>
    (H6.ldI .i64 H.n (0 + 1)).bind fun x8 =>
    (H6.ldI .i64 H.n (0 + 2)).bind fun x9 =>
    (H6.ldI .i64 v1 0).bind fun x10 =>
    (H6.ldI .i64 v1 (0 + 1)).bind fun x11 =>
    (r78 x7 x8 x9 x10 x11 H0).bind fun p12 =>
    if p12.1 ≤ 0 then
      (some ((⟨true, 0, 0, 0, 0, 0⟩, 4), H6))
    else
      (r64_l0 app k_ v1 v2 v3 v4 (w64 (v5 + 1)) H6)))
  else
    (some ((v2, 0), H))
noncomputable def r64_j1 (app : App) (v1 : Nat) (v2 : Sl) (v3 : Bool) (H : Hp) : Option ((Sl × Int) × Hp) :=
  if v3 = true then
    (some ((⟨true, 0, 0, 0, 0, 0⟩, 2), H))
  else
    ((r54 app v2 H).bind fun p2 =>
    r64_l0 app FUEL v1 v2 p2.1 (p2.1.len : Int) 0 p2.2)
noncomputable def r64 (app : App) (a0 : Sl) (a1_0 : Int) (a1_1 : Int) (H : Hp) : Option ((Sl × Int) × Hp) :=
  lt (H.push (.cells [.int .i64 a1_0, .int .i64 a1_1] false)) fun H1 =>
  (r52 a0 H1).bind fun p2 =>
  if p2.1 = true then
    ((p2.2.ldI .i64 H.n (0 + (0 : Int).toNat * 1)).bind fun x4 =>
    (r70 x4 H0).bind fun p5 =>
    if p5.1 = true then
      ((p2.2.ldI .i64 H.n (0 + (1 : Int).toNat * 1)).bind fun x7 =>
      (r70 x7 H0).bind fun p8 =>
      r64_j1 app H.n a0 (!p8.1) p2.2)
    else
      (r64_j1 app H.n a0 true p2.2))
  else
    (r64_j1 app H.n a0 true p2.2)
/- 68 congou/deals.compare -/
def ret68 : Int → AV := fun r => .int .i64 r
noncomputable def r68 (a0_0 : Int) (a0_1 : Int) (a1_0 : Int) (a1_1 : Int) (H : Hp) : Option (Int × Hp) :=
  lt ((H.push (.cells [.int .i64 a0_0, .int .i64 a0_1] false)).push (.cells [.int .i64 a1_0, .int .i64 a1_1] false)) fun H1 =>
  (H1.ldI .i64 H.n (0 + 0)).bind fun x2 =>
  (H1.ldI .i64 ((H.push (.cells [.int .i64 a0_0, .int .i64 a0_1] false)).n) (0 + 1)).bind fun x3 =>
  (H1.ldI .i64 ((H.push (.cells [.int .i64 a0_0, .int .i64 a0_1] false)).n) (0 + 0)).bind fun x4 =>
  (H1.ldI .i64 H.n (0 + 1)).bind fun x5 =>
  (r80 (w64 (x2 * x3)) (w64 (x4 * x5)) H0).bind fun p6 =>
  some (p6.1, H1)
/- 79 congou/deals.along -/
def ret79 : Int × Int → AV := fun r => .agg [.int .i64 r.1, .int .i64 r.2]
noncomputable def r79 (a0 : Int) (a1_0 : Int) (a1_1 : Int) (a2_0 : Int) (a2_1 : Int) (H : Hp) : Option ((Int × Int) × Hp) :=
  lt (((H.push (.cells [.int .i64 a1_0, .int .i64 a1_1] false)).push (.cells [.int .i64 a2_0, .int .i64 a2_1] false)).push (.cells [.int .i64 0, .int .i64 0] false)) fun H1 =>
  (H1.ldI .i64 H.n (0 + 0)).bind fun x2 =>
  (H1.ldI .i64 ((H.push (.cells [.int .i64 a1_0, .int .i64 a1_1] false)).n) (0 + 0)).bind fun x3 =>
  (H1.ldI .i64 H.n (0 + 1)).bind fun x4 =>
  (H1.ldI .i64 ((H.push (.cells [.int .i64 a1_0, .int .i64 a1_1] false)).n) (0 + 1)).bind fun x5 =>
  (r48 (w64 (x2 * x3)) (w64 (x4 * x5)) H0).bind fun p6 =>
  ((H1.push (.cells [.int .i64 0, .int .i64 0] false)).sts H1.n 0 [.int .i64 p6.1.1, .int .i64 p6.1.2]).bind fun H7 =>
  (H7.ldI .i64 H1.n (0 + 1)).bind fun x8 =>
  (H7.ldI .i64 H1.n (0 + 0)).bind fun x9 =>
  (H7.ldI .i64 H1.n (0 + 1)).bind fun x10 =>
  (r48 (w64 ((w64 (a0 * x8)) + x9)) x10 H0).bind fun p11 =>
  (H7.sts (((H.push (.cells [.int .i64 a1_0, .int .i64 a1_1] false)).push (.cells [.int .i64 a2_0, .int .i64 a2_1] false)).n) 0 [.int .i64 p11.1.1, .int .i64 p11.1.2]).bind fun H12 =>
  (H12.ldI .i64 (((H.push (.cells [.int .i64 a1_0, .int .i64 a1_1] false)).push (.cells [.int .i64 a2_0, .int .i64 a2_1] false)).n) 0).bind fun x13 =>
  (H12.ldI .i64 (((H.push (.cells [.int .i64 a1_0, .int .i64 a1_1] false)).push (.cells [.int .i64 a2_0, .int .i64 a2_1] false)).n) (0 + 1)).bind fun x14 =>
  some ((x13, x14), H12)
/- 65 (congou/deals.offers).far -/
def ret65 : Int × Int × Int × Int → AV := fun r => .agg [.int .i64 r.1, .int .i64 r.2.1, .int .i64 r.2.2.1, .int .i64 r.2.2.2]
noncomputable def r65_j1 (app : App) (kt0 : Nat → Nat → Nat → Nat → Nat → Sl → Int → Int → Hp → Option ((Int × Int × Int × Int) × Hp)) (v1 : Nat) (v2 : Nat) (v3 : Nat) (v4 : Nat) (v5 : Nat) (v6 : Nat) (v7 : Sl) (v8 : Int) (v9 : Int) (v10 : Bool) (H : Hp) : Option ((Int × Int × Int × Int) × Hp) :=
  if v10 = true then
    ((H.ldI .i64 v6 0).bind fun x2 =>
    (H.ldI .i64 v6 (0 + 1)).bind fun x3 =>
    (H.sts v5 0 [.int .i64 x2, .int .i64 x3]).bind fun H4 =>
    kt0 v1 v2 v3 v4 v5 v7 v8 (w64 (v9 + 1)) H4)
  else
    (kt0 v1 v2 v3 v4 v5 v7 v8 (w64 (v9 + 1)) H)
noncomputable def r65_l0 (app : App) : Nat → Nat → Nat → Nat → Nat → Nat → Sl → Int → Int → Hp → Option ((Int × Int × Int × Int) × Hp)
  | 0, _, _, _, _, _, _, _, _, _ => none
  | k_ + 1, v1, v2, v3, v4, v5, v6, v7, v8, H => if v8 < v7 then
    (ck ((0 : Int) ≤ v8 ∧ v8 < (v6.len : Int)) (
    (H.ldI .i64 v6.b (v6.o + (v8 : Int).toNat * 3)).bind fun x3 =>
    (H.ldI .i64 v6.b ((v6.o + (v8 : Int).toNat * 3) + 1)).bind fun x4 =>
    (H.ldI .i64 v6.b ((v6.o + (v8 : Int).toNat * 3) + 2)).bind fun x5 =>
    ((H.push (.cells [.int .i64 0, .int .i64 0, .int .i64 0] false)).sts H.n 0 [.int .i64 x3, .int .i64 x4, .int .i64 x5]).bind fun H6 =>
    (H6.ldI .i64 H.n (0 + 0)).bind fun x7 =>
    (H6.ldI .i64 v2 (0 + 0)).bind fun x8 =>
    (H6.ldI .i64 v3 (0 + 1)).bind fun x9 =>
    (H6.ldI .i64 H.n (0 + 1)).bind fun x10 =>
    (H6.ldI .i64 v3 (0 + 0)).bind fun x11 =>
    (H6.ldI .i64 v2 (0 + 1)).bind fun x12 =>
    if (w64 ((w64 ((w64 (x7 * x8)) * x9)) + (w64 ((w64 (x10 * x11)) * x12)))) = 0 then
      (r65_l0 app k_ v1 v2 v3 v4 v5 v6 v7 (w64 (v8 + 1)) H6)
    else
      ((H6.ldI .i64 H.n 0).bind fun x14 =>
      (H6.ldI .i64 H.n (0 + 1)).bind fun x15 =>
      (H6.ldI .i64 H.n (0 + 2)).bind fun x16 =>
      (H6.ldI .i64 v1 0).bind fun x17 =>
      (H6.ldI .i64 v1 (0 + 1)).bind fun x18 =>
      (r78 x14 x15 x16 x17 x18 H0).bind fun p19 =>
      (H6.ldI .i64 v2 (0 + 1)).bind fun x20 =>
      (H6.ldI .i64 v3 (0 + 1)).bind fun x21 =>
      (r48 (w64 ((w64 (p19.1 * x20)) * x21)) (w64 ((w64 ((w64 (x7 * x8)) * x9)) + (w64 ((w64 (x10 * x11)) * x12)))) H0).bind fun p22 =>
      ((H6.push (.cells [.int .i64 0, .int .i64 0] false)).sts H6.n 0 [.int .i64 p22.1.1, .int .i64 p22.1.2]).bind fun H23 =>
      ck ((H6.push (.cells [.int .i64 0, .int .i64 0] false)).ldI .i64 H.n 0 = some x14) (
      ck ((H6.push (.cells [.int .i64 0, .int .i64 0] false)).ldI .i64 H.n (0 + 1) = some x15) (
      ck ((H6.push (.cells [.int .i64 0, .int .i64 0] false)).ldI .i64 H.n (0 + 2) = some x16) (
      ck ((H6.push (.cells [.int .i64 0, .int .i64 0] false)).ldI .i64 v1 0 = some x17) (
      ck ((H6.push (.cells [.int .i64 0, .int .i64 0] false)).ldI .i64 v1 (0 + 1) = some x18) (
      ck ((H6.push (.cells [.int .i64 0, .int .i64 0] false)).ldI .i64 v2 (0 + 1) = some x20) (
      ck ((H6.push (.cells [.int .i64 0, .int .i64 0] false)).ldI .i64 v3 (0 + 1) = some x21) (
      (H23.ldI .i64 v5 (0 + 1)).bind fun x31 =>
      if x31 = 0 then
        (r65_j1 app (fun v1_ v2_ v3_ v4_ v5_ v6_ v7_ v8_ H_ => r65_l0 app k_ v1_ v2_ v3_ v4_ v5_ v6_ v7_ v8_ H_) v1 v2 v3 v4 v5 H6.n v6 v7 v8 true H23)
      else
        ((H23.ldI .i64 H6.n 0).bind fun x33 =>
        (H23.ldI .i64 H6.n (0 + 1)).bind fun x34 =>
        (H23.ldI .i64 v5 0).bind fun x35 =>
        (H23.ldI .i64 v5 (0 + 1)).bind fun x36 =>
        (r68 x33 x34 x35 x36 H0).bind fun p37 =>
        r65_j1 app (fun v1_ v2_ v3_ v4_ v5_ v6_ v7_ v8_ H_ => r65_l0 app k_ v1_ v2_ v3_ v4_ v5_ v6_ v7_ v8_ H_) v1 v2 v3 v4 v5 H6.n v6 v7 v8 (decide (p37.1 < 0)) H23)))))))))))
  else
    ((H.ldI .i64 v1 (0 + (0 : Int).toNat * 1)).bind fun x38 =>
    (H.ldI .i64 v5 0).bind fun x39 =>
    (H.ldI .i64 v5 (0 + 1)).bind fun x40 =>
    (H.ldI .i64 v2 0).bind fun x41 =>
    (H.ldI .i64 v2 (0 + 1)).bind fun x42 =>
    (r79 x38 x39 x40 x41 x42 H0).bind fun p43 =>
    (H.ldI .i64 v1 (0 + (1 : Int).toNat * 1)).bind fun x44 =>
    (H.ldI .i64 v5 0).bind fun x45 =>
    (H.ldI .i64 v5 (0 + 1)).bind fun x46 =>
    (H.ldI .i64 v3 0).bind fun x47 =>
    (H.ldI .i64 v3 (0 + 1)).bind fun x48 =>
    (r79 x44 x45 x46 x47 x48 H0).bind fun p49 =>
    (H.sts v4 0 [.int .i64 p43.1.1, .int .i64 p43.1.2, .int .i64 p49.1.1, .int .i64 p49.1.2]).bind fun H50 =>
    (H50.ldI .i64 v4 0).bind fun x51 =>
    (H50.ldI .i64 v4 (0 + 1)).bind fun x52 =>
    (H50.ldI .i64 v4 (0 + 2)).bind fun x53 =>
    (H50.ldI .i64 v4 (0 + 3)).bind fun x54 =>
    some ((x51, x52, x53, x54), H50))
noncomputable def r65 (app : App) (a0 : Sl) (a1_0 : Int) (a1_1 : Int) (a2_0 : Int) (a2_1 : Int) (a3_0 : Int) (a3_1 : Int) (H : Hp) : Option ((Int × Int × Int × Int) × Hp) :=
  lt ((((H.push (.cells [.int .i64 a1_0, .int .i64 a1_1] false)).push (.cells [.int .i64 a2_0, .int .i64 a2_1] false)).push (.cells [.int .i64 a3_0, .int .i64 a3_1] false)).push (.cells [.int .i64 0, .int .i64 0, .int .i64 0, .int .i64 0] false)) fun H1 =>
  ((H1.push (.cells [.int .i64 0, .int .i64 0] false)).sts H1.n 0 [.int .i64 0, .int .i64 0]).bind fun H2 =>
  (r54 app a0 H2).bind fun p3 =>
  r65_l0 app FUEL H.n ((H.push (.cells [.int .i64 a1_0, .int .i64 a1_1] false)).n) (((H.push (.cells [.int .i64 a1_0, .int .i64 a1_1] false)).push (.cells [.int .i64 a2_0, .int .i64 a2_1] false)).n) ((((H.push (.cells [.int .i64 a1_0, .int .i64 a1_1] false)).push (.cells [.int .i64 a2_0, .int .i64 a2_1] false)).push (.cells [.int .i64 a3_0, .int .i64 a3_1] false)).n) H1.n p3.1 (p3.1.len : Int) 0 p3.2
/- 40 congou/deals.Halves -/
def ret40 : Int × Int × Int × Int × Int → AV := fun r => .tup [.agg [.int .i64 r.1, .int .i64 r.2.1, .int .i64 r.2.2.1, .int .i64 r.2.2.2.1], .int .i64 r.2.2.2.2]
noncomputable def r40 (app : App) (a0 : Sl) (a1_0 : Int) (a1_1 : Int) (H : Hp) : Option ((Int × Int × Int × Int × Int) × Hp) :=
  lt ((H.push (.cells [.int .i64 a1_0, .int .i64 a1_1] false)).push (.cells [.int .i64 0, .int .i64 0, .int .i64 0, .int .i64 0] false)) fun H1 =>
  (H1.ldI .i64 H.n 0).bind fun x2 =>
  (H1.ldI .i64 H.n (0 + 1)).bind fun x3 =>
  (r64 app a0 x2 x3 H1).bind fun p4 =>
  if p4.1.2 ≠ 0 then
    ((p4.2.sts ((H.push (.cells [.int .i64 a1_0, .int .i64 a1_1] false)).n) 0 [.int .i64 0, .int .i64 0, .int .i64 0, .int .i64 0]).bind fun H6 =>
    (H6.ldI .i64 ((H.push (.cells [.int .i64 a1_0, .int .i64 a1_1] false)).n) 0).bind fun x7 =>
    (H6.ldI .i64 ((H.push (.cells [.int .i64 a1_0, .int .i64 a1_1] false)).n) (0 + 1)).bind fun x8 =>
    (H6.ldI .i64 ((H.push (.cells [.int .i64 a1_0, .int .i64 a1_1] false)).n) (0 + 2)).bind fun x9 =>
    (H6.ldI .i64 ((H.push (.cells [.int .i64 a1_0, .int .i64 a1_1] false)).n) (0 + 3)).bind fun x10 =>
    some ((x7, x8, x9, x10, p4.1.2), H6))
  else
    ((r48 1 1 H0).bind fun p11 =>
    ((p4.2.push (.cells [.int .i64 0, .int .i64 0] false)).sts p4.2.n 0 [.int .i64 p11.1.1, .int .i64 p11.1.2]).bind fun H12 =>
    (H12.ldI .i64 H.n 0).bind fun x13 =>
    (H12.ldI .i64 H.n (0 + 1)).bind fun x14 =>
    (H12.ldI .i64 p4.2.n 0).bind fun x15 =>
    (H12.ldI .i64 p4.2.n (0 + 1)).bind fun x16 =>
    (H12.ldI .i64 p4.2.n 0).bind fun x17 =>
    (H12.ldI .i64 p4.2.n (0 + 1)).bind fun x18 =>
    (r65 app p4.1.1 x13 x14 x15 x16 x17 x18 H12).bind fun p19 =>
    (p19.2.sts ((H.push (.cells [.int .i64 a1_0, .int .i64 a1_1] false)).n) 0 [.int .i64 p19.1.1, .int .i64 p19.1.2.1, .int .i64 p19.1.2.2.1, .int .i64 p19.1.2.2.2]).bind fun H20 =>
    (H20.ldI .i64 ((H.push (.cells [.int .i64 a1_0, .int .i64 a1_1] false)).n) 0).bind fun x21 =>
    (H20.ldI .i64 ((H.push (.cells [.int .i64 a1_0, .int .i64 a1_1] false)).n) (0 + 1)).bind fun x22 =>
    (H20.ldI .i64 ((H.push (.cells [.int .i64 a1_0, .int .i64 a1_1] false)).n) (0 + 2)).bind fun x23 =>
    (H20.ldI .i64 ((H.push (.cells [.int .i64 a1_0, .int .i64 a1_1] false)).n) (0 + 3)).bind fun x24 =>
    some ((x21, x22, x23, x24, 0), H20))
/- 19 congou/congoulaw05.awake -/
def ret19 : Bool → AV := fun r => .bool r
noncomputable def r19 (app : App) (H : Hp) : Option (Bool × Hp) :=
  (r40 app ⟨false, H.n, 0, 2, 2, 0⟩ 0 0 (H.push (.cells [.int .i64 0, .int .i64 10, .int .i64 10, .int .i64 0] false))).bind fun p1 =>
  ((p1.2.push (.cells [.int .i64 0, .int .i64 0, .int .i64 0, .int .i64 0] false)).sts p1.2.n 0 [.int .i64 p1.1.1, .int .i64 p1.1.2.1, .int .i64 p1.1.2.2.1, .int .i64 p1.1.2.2.2.1]).bind fun H2 =>
  if p1.1.2.2.2.2 = 0 then
    ((H2.ldI .i64 p1.2.n 0).bind fun x4 =>
    (H2.ldI .i64 p1.2.n (0 + 1)).bind fun x5 =>
    (H2.ldI .i64 p1.2.n (0 + 2)).bind fun x6 =>
    (H2.ldI .i64 p1.2.n (0 + 3)).bind fun x7 =>
    some ((((x4 == 5) && (x5 == 1)) && ((x6 == 5) && (x7 == 1))), H2))
  else
    (some (false, H2))
/- 41 slices.Clone[[][2]int,[2]int] -/
def ret41 : Sl → AV := fun r => .sl r
noncomputable def r41 (a0 : Sl) (H : Hp) : Option (Sl × Hp) :=
  if a0.nil = true then
    (some (⟨true, 0, 0, 0, 0, 0⟩, H))
  else
    (((H.push (.cells [] false)).lds a0.b a0.o (a0.len * 2)).bind fun x2 =>
    ck (x2.all AV.one = true) (
    ((H.push (.cells [] false)).app 2 ⟨false, H.n, 0, 0, 0, 0⟩ x2 a0.len).bind fun x4 =>
    some (x4.1, x4.2)))
/- 24 congou/congoulaw05.list -/
def ret24 : Sl → AV := fun r => .sl r
noncomputable def r24 (a0 : Sl) (H : Hp) : Option (Sl × Hp) :=
  ck (((0 : Int) ≤ 0 ∧ 0 ≤ (if 11 < (a0.len : Int) then 11 else (a0.len : Int)) ∧ (if 11 < (a0.len : Int) then 11 else (a0.len : Int)) ≤ (a0.cap : Int)) ∧ (a0.opn = 0 ∨ a0.opn = 2)) (
  (r41 (a0.cut 2 (0 : Int).toNat ((if 11 < (a0.len : Int) then 11 else (a0.len : Int)) : Int).toNat) H).bind fun p2 =>
  some (p2.1, p2.2))
/- 44 congou/congouref05.Fallback -/
def ret44 : Bool → AV := fun r => .bool r
noncomputable def r44 (a0_0 : Int) (a0_1 : Int) (H : Hp) : Option (Bool × Hp) :=
  lt (H.push (.cells [.int .i64 a0_0, .int .i64 a0_1] false)) fun H1 =>
  (H1.ldI .i64 H.n (0 + (0 : Int).toNat * 1)).bind fun x2 =>
  if 0 ≤ x2 then
    ((H1.ldI .i64 H.n (0 + (0 : Int).toNat * 1)).bind fun x4 =>
    if x4 ≤ 30 then
      ((H1.ldI .i64 H.n (0 + (1 : Int).toNat * 1)).bind fun x6 =>
      if 0 ≤ x6 then
        ((H1.ldI .i64 H.n (0 + (1 : Int).toNat * 1)).bind fun x8 =>
        some ((decide (x8 ≤ 30)), H1))
      else
        (some (false, H1)))
    else
      (some (false, H1)))
  else
    (some (false, H1))
/- 26 congou/congouref05.Offers -/
def ret26 : Bool → AV := fun r => .bool r
noncomputable def r26_l1 (kt0 : Sl → Sl → Int → Int → Hp → Option (Bool × Hp)) : Nat → Sl → Nat → Sl → Int → Int → Sl → Int → Int → Hp → Option (Bool × Hp)
  | 0, _, _, _, _, _, _, _, _, _ => none
  | k_ + 1, v1, v2, v3, v4, v5, v6, v7, v8, H => if v8 < v7 then
    (ck ((0 : Int) ≤ v8 ∧ v8 < (v6.len : Int)) (
    (H.ldI .i64 v6.b (v6.o + (v8 : Int).toNat * 2)).bind fun x3 =>
    (H.ldI .i64 v6.b ((v6.o + (v8 : Int).toNat * 2) + 1)).bind fun x4 =>
    ((H.push (.cells [.int .i64 0, .int .i64 0] false)).sts H.n 0 [.int .i64 x3, .int .i64 x4]).bind fun H5 =>
    (H5.ldI .i64 v2 0).bind fun x6 =>
    (H5.ldI .i64 v2 (0 + 1)).bind fun x7 =>
    (H5.ldI .i64 H.n 0).bind fun x8 =>
    (H5.ldI .i64 H.n (0 + 1)).bind fun x9 =>
    if (AV.keqs [.int .i64 x6, .int .i64 x7] [.int .i64 x8, .int .i64 x9]) = true then
      (some (false, H5))
    else
      (r26_l1 kt0 k_ v1 v2 v3 v4 v5 v6 v7 (w64 (v8 + 1)) H5)))
  else
    (kt0 v1 v3 v4 (w64 (v5 + 1)) H)
noncomputable def r26_l0 : Nat → Sl → Sl → Int → Int → Hp → Option (Bool × Hp)
  | 0, _, _, _, _, _ => none
  | k_ + 1, v1, v2, v3, v4, H => if v4 < v3 then
    (ck ((0 : Int) ≤ v4 ∧ v4 < (v2.len : Int)) (
    (H.ldI .i64 v2.b (v2.o + (v4 : Int).toNat * 2)).bind fun x3 =>
    (H.ldI .i64 v2.b ((v2.o + (v4 : Int).toNat * 2) + 1)).bind fun x4 =>
    ((H.push (.cells [.int .i64 0, .int .i64 0] false)).sts H.n 0 [.int .i64 x3, .int .i64 x4]).bind fun H5 =>
    (H5.ldI .i64 H.n 0).bind fun x6 =>
    (H5.ldI .i64 H.n (0 + 1)).bind fun x7 =>
    (r44 x6 x7 H0).bind fun p8 =>
    if p8.1 = true then
      (ck (((0 : Int) ≤ 0 ∧ 0 ≤ v4 ∧ v4 ≤ (v1.cap : Int)) ∧ (v1.opn = 0 ∨ v1.opn = 2)) (
      r26_l1 (fun v1_ v2_ v3_ v4_ H_ => r26_l0 k_ v1_ v2_ v3_ v4_ H_) FUEL v1 H.n v2 v3 v4 (v1.cut 2 (0 : Int).toNat (v4 : Int).toNat) ((v1.cut 2 (0 : Int).toNat (v4 : Int).toNat).len : Int) 0 H5))
    else
      (some (false, H5))))
  else
    (if 1 ≤ (v1.len : Int) then
      (some ((decide ((v1.len : Int) ≤ 8)), H))
    else
      (some (false, H)))
noncomputable def r26 (a0 : Sl) (H : Hp) : Option (Bool × Hp) :=
  r26_l0 FUEL a0 a0 (a0.len : Int) 0 H
/- 29 congou/deals.Edge -/
def ret29 : Sl × Int → AV := fun r => .tup [.sl r.1, .int .i64 r.2]
noncomputable def r29 (app : App) (a0 : Sl) (H : Hp) : Option ((Sl × Int) × Hp) :=
  (r52 a0 H).bind fun p1 =>
  if p1.1 = true then
    ((r56 app a0 p1.2).bind fun p3 =>
    some ((p3.1, 0), p3.2))
  else
    (some ((⟨true, 0, 0, 0, 0, 0⟩, 2), p1.2))
/- 30 slices.Equal[[][2]int,[2]int] -/
def ret30 : Bool → AV := fun r => .bool r
noncomputable def r30_l0 : Nat → Sl → Sl → Int → Int → Hp → Option (Bool × Hp)
  | 0, _, _, _, _, _ => none
  | k_ + 1, v1, v2, v3, v4, H => if v4 < v3 then
    (ck ((0 : Int) ≤ v4 ∧ v4 < (v1.len : Int)) (
    (H.ldI .i64 v1.b (v1.o + (v4 : Int).toNat * 2)).bind fun x3 =>
    (H.ldI .i64 v1.b ((v1.o + (v4 : Int).toNat * 2) + 1)).bind fun x4 =>
    ck ((0 : Int) ≤ v4 ∧ v4 < (v2.len : Int)) (
    (H.ldI .i64 v2.b (v2.o + (v4 : Int).toNat * 2)).bind fun x6 =>
    (H.ldI .i64 v2.b ((v2.o + (v4 : Int).toNat * 2) + 1)).bind fun x7 =>
    if (AV.keqs [.int .i64 x3, .int .i64 x4] [.int .i64 x6, .int .i64 x7]) = true then
      (r30_l0 k_ v1 v2 v3 (w64 (v4 + 1)) H)
    else
      (some (false, H)))))
  else
    (some (true, H))
noncomputable def r30 (a0 : Sl) (a1 : Sl) (H : Hp) : Option (Bool × Hp) :=
  if (a0.len : Int) ≠ (a1.len : Int) then
    (some (false, H))
  else
    (r30_l0 FUEL a0 a1 (a0.len : Int) 0 H)
/- 57 congou/congouref05.last -/
def ret57 : Bool → AV := fun r => .bool r
noncomputable def r57_j3 (kt1 : Sl → Nat → Nat → Sl → Int → Int → Sl → Int → Int → Hp → Option (Bool × Hp)) (v1 : Sl) (v2 : Nat) (v3 : Nat) (v4 : Sl) (v5 : Int) (v6 : Int) (v7 : Sl) (v8 : Int) (v9 : Int) (v10 : Bool) (H : Hp) : Option (Bool × Hp) :=
  if v10 = true then
    (some (false, H))
  else
    (kt1 v1 v2 v3 v4 v5 v6 v7 v8 (w64 (v9 + 1)) H)
noncomputable def r57_l1 (kt0 : Sl → Nat → Sl → Int → Int → Hp → Option (Bool × Hp)) : Nat → Sl → Nat → Nat → Sl → Int → Int → Sl → Int → Int → Hp → Option (Bool × Hp)
  | 0, _, _, _, _, _, _, _, _, _, _ => none
  | k_ + 1, v1, v2, v3, v4, v5, v6, v7, v8, v9, H => if v9 < v8 then
    (ck ((0 : Int) ≤ v9 ∧ v9 < (v7.len : Int)) (
    (H.ldI .i64 v7.b (v7.o + (v9 : Int).toNat * 2)).bind fun x3 =>
    (H.ldI .i64 v7.b ((v7.o + (v9 : Int).toNat * 2) + 1)).bind fun x4 =>
    ((H.push (.cells [.int .i64 0, .int .i64 0] false)).sts H.n 0 [.int .i64 x3, .int .i64 x4]).bind fun H5 =>
    (H5.ldI .i64 v3 (0 + (0 : Int).toNat * 1)).bind fun x6 =>
    (H5.ldI .i64 v2 (0 + (0 : Int).toNat * 1)).bind fun x7 =>
    if x6 < x7 then
      ((H5.ldI .i64 v2 (0 + (0 : Int).toNat * 1)).bind fun x9 =>
      (H5.ldI .i64 H.n (0 + (0 : Int).toNat * 1)).bind fun x10 =>
      if x9 < x10 then
        ((H5.ldI .i64 H.n (0 + (1 : Int).toNat * 1)).bind fun x12 =>
        (H5.ldI .i64 v3 (0 + (1 : Int).toNat * 1)).bind fun x13 =>
        (H5.ldI .i64 v2 (0 + (0 : Int).toNat * 1)).bind fun x14 =>
        (H5.ldI .i64 v3 (0 + (0 : Int).toNat * 1)).bind fun x15 =>
        (H5.ldI .i64 v2 (0 + (1 : Int).toNat * 1)).bind fun x16 =>
        (H5.ldI .i64 v3 (0 + (1 : Int).toNat * 1)).bind fun x17 =>
        (H5.ldI .i64 H.n (0 + (0 : Int).toNat * 1)).bind fun x18 =>
        (H5.ldI .i64 v3 (0 + (0 : Int).toNat * 1)).bind fun x19 =>
        r57_j3 (fun v1_ v2_ v3_ v4_ v5_ v6_ v7_ v8_ v9_ H_ => r57_l1 kt0 k_ v1_ v2_ v3_ v4_ v5_ v6_ v7_ v8_ v9_ H_) v1 v2 v3 v4 v5 v6 v7 v8 v9 (decide ((w64 ((w64 (x16 - x17)) * (w64 (x18 - x19)))) < (w64 ((w64 (x12 - x13)) * (w64 (x14 - x15)))))) H5)
      else
        (r57_j3 (fun v1_ v2_ v3_ v4_ v5_ v6_ v7_ v8_ v9_ H_ => r57_l1 kt0 k_ v1_ v2_ v3_ v4_ v5_ v6_ v7_ v8_ v9_ H_) v1 v2 v3 v4 v5 v6 v7 v8 v9 false H5))
    else
      (r57_j3 (fun v1_ v2_ v3_ v4_ v5_ v6_ v7_ v8_ v9_ H_ => r57_l1 kt0 k_ v1_ v2_ v3_ v4_ v5_ v6_ v7_ v8_ v9_ H_) v1 v2 v3 v4 v5 v6 v7 v8 v9 false H5)))
  else
    (kt0 v1 v2 v4 v5 (w64 (v6 + 1)) H)
noncomputable def r57_j2 (kt0 : Sl → Nat → Sl → Int → Int → Hp → Option (Bool × Hp)) (v1 : Sl) (v2 : Nat) (v3 : Nat) (v4 : Sl) (v5 : Int) (v6 : Int) (v7 : Bool) (H : Hp) : Option (Bool × Hp) :=
  if v7 = true then
    (some (false, H))
  else
    (r57_l1 kt0 FUEL v1 v2 v3 v4 v5 v6 v1 (v1.len : Int) 0 H)
noncomputable def r57_l0 : Nat → Sl → Nat → Sl → Int → Int → Hp → Option (Bool × Hp)
  | 0, _, _, _, _, _, _ => none
  | k_ + 1, v1, v2, v3, v4, v5, H => if v5 < v4 then
    (ck ((0 : Int) ≤ v5 ∧ v5 < (v3.len : Int)) (
    (H.ldI .i64 v3.b (v3.o + (v5 : Int).toNat * 2)).bind fun x3 =>
    (H.ldI .i64 v3.b ((v3.o + (v5 : Int).toNat * 2) + 1)).bind fun x4 =>
    ((H.push (.cells [.int .i64 0, .int .i64 0] false)).sts H.n 0 [.int .i64 x3, .int .i64 x4]).bind fun H5 =>
    (H5.ldI .i64 H.n 0).bind fun x6 =>
    (H5.ldI .i64 H.n (0 + 1)).bind fun x7 =>
    (H5.ldI .i64 v2 0).bind fun x8 =>
    (H5.ldI .i64 v2 (0 + 1)).bind fun x9 =>
    if (AV.keqs [.int .i64 x6, .int .i64 x7] [.int .i64 x8, .int .i64 x9]) = true then
      (r57_j2 (fun v1_ v2_ v3_ v4_ v5_ H_ => r57_l0 k_ v1_ v2_ v3_ v4_ v5_ H_) v1 v2 H.n v3 v4 v5 false H5)
    else
      ((H5.ldI .i64 H.n (0 + (0 : Int).toNat * 1)).bind fun x11 =>
      (H5.ldI .i64 v2 (0 + (0 : Int).toNat * 1)).bind fun x12 =>
      if x12 ≤ x11 then
        ((H5.ldI .i64 H.n (0 + (1 : Int).toNat * 1)).bind fun x14 =>
        (H5.ldI .i64 v2 (0 + (1 : Int).toNat * 1)).bind fun x15 =>
        r57_j2 (fun v1_ v2_ v3_ v4_ v5_ H_ => r57_l0 k_ v1_ v2_ v3_ v4_ v5_ H_) v1 v2 H.n v3 v4 v5 (decide (x15 ≤ x14)) H5)
      else
        (r57_j2 (fun v1_ v2_ v3_ v4_ v5_ H_ => r57_l0 k_ v1_ v2_ v3_ v4_ v5_ H_) v1 v2 H.n v3 v4 v5 false H5))))
  else
    (some (true, H))
noncomputable def r57 (a0 : Sl) (a1_0 : Int) (a1_1 : Int) (H : Hp) : Option (Bool × Hp) :=
  lt (H.push (.cells [.int .i64 a1_0, .int .i64 a1_1] false)) fun H1 =>
  r57_l0 FUEL a0 H.n a0 (a0.len : Int) 0 H1
/- 31 congou/congouref05.Edge -/
def ret31 : Sl → AV := fun r => .sl r
noncomputable def r31_j3 (kt0 : Sl → Sl → Int → Hp → Option (Sl × Hp)) (v1 : Sl) (v2 : Sl) (v3 : Int) (v4 : Int) (v5 : Int) (v6 : Bool) (H : Hp) : Option (Sl × Hp) :=
  if v6 = true then
    ((H.apN 2 v2 [.int .i64 v3, .int .i64 v4] 1).bind fun x2 =>
    kt0 v1 x2.1 (w64 (v5 + 1)) x2.2)
  else
    (kt0 v1 v2 (w64 (v5 + 1)) H)
noncomputable def r31_l1 (kt0 : Sl → Sl → Int → Hp → Option (Sl × Hp)) : Nat → Sl → Sl → Int → Int → Int → Sl → Int → Int → Hp → Option (Sl × Hp)
  | 0, _, _, _, _, _, _, _, _, _ => none
  | k_ + 1, v1, v2, v3, v4, v5, v6, v7, v8, H => if v8 < v7 then
    (ck ((0 : Int) ≤ v8 ∧ v8 < (v6.len : Int)) (
    (H.ldI .i64 v6.b (v6.o + (v8 : Int).toNat * 2)).bind fun x3 =>
    (H.ldI .i64 v6.b ((v6.o + (v8 : Int).toNat * 2) + 1)).bind fun x4 =>
    ((H.push (.cells [.int .i64 0, .int .i64 0] false)).sts H.n 0 [.int .i64 x3, .int .i64 x4]).bind fun H5 =>
    (H5.ldI .i64 H.n (0 + (0 : Int).toNat * 1)).bind fun x6 =>
    if x6 = v3 then
      ((H5.ldI .i64 H.n (0 + (1 : Int).toNat * 1)).bind fun x8 =>
      r31_l1 kt0 k_ v1 v2 v3 (if v4 < x8 then x8 else v4) v5 v6 v7 (w64 (v8 + 1)) H5)
    else
      (r31_l1 kt0 k_ v1 v2 v3 v4 v5 v6 v7 (w64 (v8 + 1)) H5)))
  else
    (if 0 ≤ v4 then
      ((r57 v1 v3 v4 H).bind fun p10 =>
      r31_j3 kt0 v1 v2 v3 v4 v5 p10.1 p10.2)
    else
      (r31_j3 kt0 v1 v2 v3 v4 v5 false H))
noncomputable def r31_l5 (kt4 : Sl → Sl → Int → Nat → Bool → Sl → Int → Int → Sl → Int → Int → Hp → Option (Sl × Hp)) : Nat → Sl → Sl → Int → Nat → Bool → Nat → Sl → Int → Int → Sl → Int → Int → Sl → Int → Int → Hp → Option (Sl × Hp)
  | 0, _, _, _, _, _, _, _, _, _, _, _, _, _, _, _, _ => none
  | k_ + 1, v1, v2, v3, v4, v5, v6, v7, v8, v9, v10, v11, v12, v13, v14, v15, H => if v15 < v14 then
    (ck ((0 : Int) ≤ v15 ∧ v15 < (v13.len : Int)) (
    (H.ldI .i64 v13.b (v13.o + (v15 : Int).toNat * 2)).bind fun x3 =>
    (H.ldI .i64 v13.b ((v13.o + (v15 : Int).toNat * 2) + 1)).bind fun x4 =>
    ((H.push (.cells [.int .i64 0, .int .i64 0] false)).sts H.n 0 [.int .i64 x3, .int .i64 x4]).bind fun H5 =>
    if v5 = true then
      (r31_l5 kt4 k_ v1 v2 v3 v4 true v6 v7 v8 v9 v10 v11 v12 v13 v14 (w64 (v15 + 1)) H5)
    else
      ((H5.ldI .i64 H.n (0 + (0 : Int).toNat * 1)).bind fun x7 =>
      (H5.ldI .i64 v6 (0 + (0 : Int).toNat * 1)).bind fun x8 =>
      (H5.ldI .i64 v4 (0 + (1 : Int).toNat * 1)).bind fun x9 =>
      (H5.ldI .i64 v6 (0 + (1 : Int).toNat * 1)).bind fun x10 =>
      (H5.ldI .i64 H.n (0 + (1 : Int).toNat * 1)).bind fun x11 =>
      (H5.ldI .i64 v6 (0 + (1 : Int).toNat * 1)).bind fun x12 =>
      (H5.ldI .i64 v4 (0 + (0 : Int).toNat * 1)).bind fun x13 =>
      (H5.ldI .i64 v6 (0 + (0 : Int).toNat * 1)).bind fun x14 =>
      r31_l5 kt4 k_ v1 v2 v3 v4 (decide ((w64 ((w64 (x7 - x8)) * (w64 (x9 - x10)))) = (w64 ((w64 (x11 - x12)) * (w64 (x13 - x14)))))) v6 v7 v8 v9 v10 v11 v12 v13 v14 (w64 (v15 + 1)) H5)))
  else
    (kt4 v1 v2 v3 v4 v5 v7 v8 v9 v10 v11 (w64 (v12 + 1)) H)
noncomputable def r31_l4 (kt2 : Sl → Sl → Sl → Int → Int → Hp → Option (Sl × Hp)) : Nat → Sl → Sl → Int → Nat → Bool → Sl → Int → Int → Sl → Int → Int → Hp → Option (Sl × Hp)
  | 0, _, _, _, _, _, _, _, _, _, _, _, _ => none
  | k_ + 1, v1, v2, v3, v4, v5, v6, v7, v8, v9, v10, v11, H => if v11 < v10 then
    (ck ((0 : Int) ≤ v11 ∧ v11 < (v9.len : Int)) (
    (H.ldI .i64 v9.b (v9.o + (v11 : Int).toNat * 2)).bind fun x3 =>
    (H.ldI .i64 v9.b ((v9.o + (v11 : Int).toNat * 2) + 1)).bind fun x4 =>
    ((H.push (.cells [.int .i64 0, .int .i64 0] false)).sts H.n 0 [.int .i64 x3, .int .i64 x4]).bind fun H5 =>
    ck (((0 : Int) ≤ (w64 (v3 + 1)) ∧ (w64 (v3 + 1)) ≤ (v1.len : Int) ∧ (v1.len : Int) ≤ (v1.cap : Int)) ∧ (v1.opn = 0 ∨ v1.opn = 2)) (
    r31_l5 (fun v1_ v2_ v3_ v4_ v5_ v6_ v7_ v8_ v9_ v10_ v11_ H_ => r31_l4 kt2 k_ v1_ v2_ v3_ v4_ v5_ v6_ v7_ v8_ v9_ v10_ v11_ H_) FUEL v1 v2 v3 v4 v5 H.n v6 v7 v8 v9 v10 v11 (v1.cut 2 (w64 (v3 + 1) : Int).toNat ((v1.len : Int) : Int).toNat) ((v1.cut 2 (w64 (v3 + 1) : Int).toNat ((v1.len : Int) : Int).toNat).len : Int) 0 H5)))
  else
    (if v5 = true then
      (kt2 v1 v2 v6 v7 (w64 (v8 + 1)) H)
    else
      ((H.ldI .i64 v4 0).bind fun x8 =>
      (H.ldI .i64 v4 (0 + 1)).bind fun x9 =>
      (H.apN 2 v2 [.int .i64 x8, .int .i64 x9] 1).bind fun x10 =>
      kt2 v1 x10.1 v6 v7 (w64 (v8 + 1)) x10.2))
noncomputable def r31_l2 : Nat → Sl → Sl → Sl → Int → Int → Hp → Option (Sl × Hp)
  | 0, _, _, _, _, _, _ => none
  | k_ + 1, v1, v2, v3, v4, v5, H => if v5 < v4 then
    (ck ((0 : Int) ≤ v5 ∧ v5 < (v3.len : Int)) (
    (H.ldI .i64 v3.b (v3.o + (v5 : Int).toNat * 2)).bind fun x3 =>
    (H.ldI .i64 v3.b ((v3.o + (v5 : Int).toNat * 2) + 1)).bind fun x4 =>
    ((H.push (.cells [.int .i64 0, .int .i64 0] false)).sts H.n 0 [.int .i64 x3, .int .i64 x4]).bind fun H5 =>
    ck (((0 : Int) ≤ 0 ∧ 0 ≤ v5 ∧ v5 ≤ (v1.cap : Int)) ∧ (v1.opn = 0 ∨ v1.opn = 2)) (
    r31_l4 (fun v1_ v2_ v3_ v4_ v5_ H_ => r31_l2 k_ v1_ v2_ v3_ v4_ v5_ H_) FUEL v1 v2 v5 H.n false v3 v4 v5 (v1.cut 2 (0 : Int).toNat (v5 : Int).toNat) ((v1.cut 2 (0 : Int).toNat (v5 : Int).toNat).len : Int) 0 H5)))
  else
    (some (v2, H))
noncomputable def r31_l0 : Nat → Sl → Sl → Int → Hp → Option (Sl × Hp)
  | 0, _, _, _, _ => none
  | k_ + 1, v1, v2, v3, H => if v3 < 31 then
    (r31_l1 (fun v1_ v2_ v3_ H_ => r31_l0 k_ v1_ v2_ v3_ H_) FUEL v1 v2 v3 (-1) v3 v1 (v1.len : Int) 0 H)
  else
    (r31_l2 FUEL v2 ⟨true, 0, 0, 0, 0, 0⟩ v2 (v2.len : Int) 0 H)
noncomputable def r31 (a0 : Sl) (H : Hp) : Option (Sl × Hp) :=
  r31_l0 FUEL a0 ⟨true, 0, 0, 0, 0, 0⟩ 0 H
/- 6 congou/congoulaw05.DealsEdges -/
def ret6 : Bool → AV := fun r => .bool r
noncomputable def r6 (app : App) (a0 : Sl) (H : Hp) : Option (Bool × Hp) :=
  (r24 a0 H).bind fun p1 =>
  (r29 app p1.1 p1.2).bind fun p2 =>
  (r26 a0 p2.2).bind fun p3 =>
  if p3.1 = true then
    ((r31 a0 p3.2).bind fun p5 =>
    (r30 p2.1.1 p5.1 p5.2).bind fun p6 =>
    if p6.1 = true then
      (if p2.1.2 = 0 then
        ((app 19 [] p6.2).bind fun p9 =>
        (p9.1.asB).bind fun x10 =>
        some (x10, p9.2))
      else
        (some (false, p6.2)))
    else
      (some (false, p6.2)))
  else
    (if (p2.1.1.len : Int) = 0 then
      (if p2.1.2 = 2 then
        ((app 19 [] p3.2).bind fun p13 =>
        (p13.1.asB).bind fun x14 =>
        some (x14, p13.2))
      else
        (some (false, p3.2)))
    else
      (some (false, p3.2)))
/- 84 slices.Values[congou/deals.offers,[2]int]$1 -/
def ret84 : Unit → AV := fun _ => .tup []
noncomputable def r84_l0 (app : App) : Nat → AV → Sl → Int → Int → Hp → Option (Unit × Hp)
  | 0, _, _, _, _, _ => none
  | k_ + 1, v1, v2, v3, v4, H => if v4 < v3 then
    (ck ((0 : Int) ≤ v4 ∧ v4 < (v2.len : Int)) (
    (H.ldI .i64 v2.b (v2.o + (v4 : Int).toNat * 2)).bind fun x3 =>
    (H.ldI .i64 v2.b ((v2.o + (v4 : Int).toNat * 2) + 1)).bind fun x4 =>
    ((H.push (.cells [.int .i64 0, .int .i64 0] false)).sts H.n 0 [.int .i64 x3, .int .i64 x4]).bind fun H5 =>
    (H5.ldI .i64 H.n 0).bind fun x6 =>
    (H5.ldI .i64 H.n (0 + 1)).bind fun x7 =>
    (callv app v1 [.agg [.int .i64 x6, .int .i64 x7]] H5).bind fun p8 =>
    (p8.1.asB).bind fun x9 =>
    if x9 = true then
      (r84_l0 app k_ v1 v2 v3 (w64 (v4 + 1)) p8.2)
    else
      (some ((), p8.2))))
  else
    (some ((), H))
noncomputable def r84 (app : App) (a0 : AV) (c0 : Nat) (H : Hp) : Option (Unit × Hp) :=
  (H.ldSl c0 0).bind fun x1 =>
  r84_l0 app FUEL a0 x1 (x1.len : Int) 0 H
end Go.Lt.P5
