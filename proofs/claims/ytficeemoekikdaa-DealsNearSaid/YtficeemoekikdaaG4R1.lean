/- PRINTED BY A PROGRAM OF OURS: what each function that 'DealsNear' reaches computes on the abstract heap, and that the translated code does just that. Nothing is asked of the input. -/
import Derived.Test.YtficeemoekikdaaG4R0
set_option linter.unusedVariables false
set_option linter.unusedSimpArgs false
set_option maxRecDepth 100000
set_option maxHeartbeats 4000000
namespace Go.Lt.P5
open Go Go.Lt Go.Proofs
/- 56 (congou/deals.offers).edge -/
def ret56 : Sl → AV := fun r => .sl r
noncomputable def r56_j4 (app : App) (kt0 : Sl → Sl → Int → Int → Hp → Option (Sl × Hp)) (kt2 : Sl → Nat → Sl → Int → Int → Hp → Option (Sl × Hp)) (v1 : Sl) (v2 : Nat) (v3 : Sl) (v4 : Int) (v5 : Int) (v6 : Bool) (H : Hp) : Option (Sl × Hp) :=
  if v6 = true then
    (ck (((0 : Int) ≤ 0 ∧ 0 ≤ (w64 ((v1.len : Int) - 1)) ∧ (w64 ((v1.len : Int) - 1)) ≤ (v1.cap : Int)) ∧ (v1.opn = 0 ∨ v1.opn = 2)) (
    kt2 (v1.cut 2 (0 : Int).toNat (w64 ((v1.len : Int) - 1) : Int).toNat) v2 v3 v4 v5 H))
  else
    ((H.ldI .i64 v2 0).bind fun x3 =>
    (H.ldI .i64 v2 (0 + 1)).bind fun x4 =>
    (H.apN 2 v1 [.int .i64 x3, .int .i64 x4] 1).bind fun x5 =>
    kt0 x5.1 v3 v4 (w64 (v5 + 1)) x5.2)
noncomputable def r56_l2 (app : App) (kt0 : Sl → Sl → Int → Int → Hp → Option (Sl × Hp)) : Nat → Sl → Nat → Sl → Int → Int → Hp → Option (Sl × Hp)
  | 0, _, _, _, _, _, _ => none
  | k_ + 1, v1, v2, v3, v4, v5, H => if 1 < (v1.len : Int) then
    (ck ((0 : Int) ≤ (w64 ((v1.len : Int) - 2)) ∧ (w64 ((v1.len : Int) - 2)) < (v1.len : Int)) (
    (H.ldI .i64 v1.b (v1.o + (w64 ((v1.len : Int) - 2) : Int).toNat * 2)).bind fun x3 =>
    (H.ldI .i64 v1.b ((v1.o + (w64 ((v1.len : Int) - 2) : Int).toNat * 2) + 1)).bind fun x4 =>
    ck ((0 : Int) ≤ (w64 ((v1.len : Int) - 1)) ∧ (w64 ((v1.len : Int) - 1)) < (v1.len : Int)) (
    (H.ldI .i64 v1.b (v1.o + (w64 ((v1.len : Int) - 1) : Int).toNat * 2)).bind fun x6 =>
    (H.ldI .i64 v1.b ((v1.o + (w64 ((v1.len : Int) - 1) : Int).toNat * 2) + 1)).bind fun x7 =>
    (H.ldI .i64 v2 0).bind fun x8 =>
    (H.ldI .i64 v2 (0 + 1)).bind fun x9 =>
    (r76 x3 x4 x6 x7 x8 x9 H0).bind fun p10 =>
    r56_j4 app kt0 (fun v1_ v2_ v3_ v4_ v5_ H_ => r56_l2 app kt0 k_ v1_ v2_ v3_ v4_ v5_ H_) v1 v2 v3 v4 v5 (decide (0 ≤ p10.1)) H)))
  else
    (r56_j4 app kt0 (fun v1_ v2_ v3_ v4_ v5_ H_ => r56_l2 app kt0 k_ v1_ v2_ v3_ v4_ v5_ H_) v1 v2 v3 v4 v5 false H)
noncomputable def r56_j3 (app : App) (kt0 : Sl → Sl → Int → Int → Hp → Option (Sl × Hp)) (kt1 : Sl → Nat → Sl → Int → Int → Hp → Option (Sl × Hp)) (v1 : Sl) (v2 : Nat) (v3 : Sl) (v4 : Int) (v5 : Int) (v6 : Bool) (H : Hp) : Option (Sl × Hp) :=
  if v6 = true then
    (ck (((0 : Int) ≤ 0 ∧ 0 ≤ (w64 ((v1.len : Int) - 1)) ∧ (w64 ((v1.len : Int) - 1)) ≤ (v1.cap : Int)) ∧ (v1.opn = 0 ∨ v1.opn = 2)) (
    kt1 (v1.cut 2 (0 : Int).toNat (w64 ((v1.len : Int) - 1) : Int).toNat) v2 v3 v4 v5 H))
  else
    (r56_l2 app kt0 FUEL v1 v2 v3 v4 v5 H)
noncomputable def r56_l1 (app : App) (kt0 : Sl → Sl → Int → Int → Hp → Option (Sl × Hp)) : Nat → Sl → Nat → Sl → Int → Int → Hp → Option (Sl × Hp)
  | 0, _, _, _, _, _, _ => none
  | k_ + 1, v1, v2, v3, v4, v5, H => if 0 < (v1.len : Int) then
    (ck ((0 : Int) ≤ (w64 ((v1.len : Int) - 1)) ∧ (w64 ((v1.len : Int) - 1)) < (v1.len : Int)) (
    (H.ldI .i64 v1.b ((v1.o + (w64 ((v1.len : Int) - 1) : Int).toNat * 2) + (1 : Int).toNat * 1)).bind fun x3 =>
    (H.ldI .i64 v2 (0 + (1 : Int).toNat * 1)).bind fun x4 =>
    r56_j3 app kt0 (fun v1_ v2_ v3_ v4_ v5_ H_ => r56_l1 app kt0 k_ v1_ v2_ v3_ v4_ v5_ H_) v1 v2 v3 v4 v5 (decide (x3 ≤ x4)) H))
  else
    (r56_j3 app kt0 (fun v1_ v2_ v3_ v4_ v5_ H_ => r56_l1 app kt0 k_ v1_ v2_ v3_ v4_ v5_ H_) v1 v2 v3 v4 v5 false H)
noncomputable def r56_l0 (app : App) : Nat → Sl → Sl → Int → Int → Hp → Option (Sl × Hp)
  | 0, _, _, _, _, _ => none
  | k_ + 1, v1, v2, v3, v4, H => if v4 < v3 then
    (ck ((0 : Int) ≤ v4 ∧ v4 < (v2.len : Int)) (
    (H.ldI .i64 v2.b (v2.o + (v4 : Int).toNat * 2)).bind fun x3 =>
    (H.ldI .i64 v2.b ((v2.o + (v4 : Int).toNat * 2) + 1)).bind fun x4 =>
    ((H.push (.cells [.int .i64 0, .int .i64 0] false)).sts H.n 0 [.int .i64 x3, .int .i64 x4]).bind fun H5 =>
    r56_l1 app (fun v1_ v2_ v3_ v4_ H_ => r56_l0 app k_ v1_ v2_ v3_ v4_ H_) FUEL v1 H.n v2 v3 v4 H5))
  else
    (some (v1, H))
noncomputable def r56 (app : App) (a0 : Sl) (H : Hp) : Option (Sl × Hp) :=
  (r73 a0 H).bind fun p1 =>
  (r72 app p1.1 (.fn 74 [] []) p1.2).bind fun p2 =>
  r56_l0 app FUEL ⟨true, 0, 0, 0, 0, 0⟩ p2.1 (p2.1.len : Int) 0 p2.2
/- 54 (congou/deals.offers).lines -/
def ret54 : Sl → AV := fun r => .sl r
noncomputable def r54_l0 (app : App) : Nat → Sl → Sl → Int → Hp → Option (Sl × Hp)
  | 0, _, _, _, _ => none
  | k_ + 1, v1, v2, v3, H => if v3 < (v1.len : Int) then
    (ck ((0 : Int) ≤ (w64 (v3 - 1)) ∧ (w64 (v3 - 1)) < (v1.len : Int)) (
    (H.ldI .i64 v1.b ((v1.o + (w64 (v3 - 1) : Int).toNat * 2) + (1 : Int).toNat * 1)).bind fun x3 =>
    ck ((0 : Int) ≤ v3 ∧ v3 < (v1.len : Int)) (
    (H.ldI .i64 v1.b ((v1.o + (v3 : Int).toNat * 2) + (1 : Int).toNat * 1)).bind fun x5 =>
    ck ((0 : Int) ≤ v3 ∧ v3 < (v1.len : Int)) (
    (H.ldI .i64 v1.b ((v1.o + (v3 : Int).toNat * 2) + (0 : Int).toNat * 1)).bind fun x7 =>
    ck ((0 : Int) ≤ (w64 (v3 - 1)) ∧ (w64 (v3 - 1)) < (v1.len : Int)) (
    (H.ldI .i64 v1.b ((v1.o + (w64 (v3 - 1) : Int).toNat * 2) + (0 : Int).toNat * 1)).bind fun x9 =>
    ck ((0 : Int) ≤ v3 ∧ v3 < (v1.len : Int)) (
    (H.ldI .i64 v1.b ((v1.o + (v3 : Int).toNat * 2) + (0 : Int).toNat * 1)).bind fun x11 =>
    ck ((0 : Int) ≤ v3 ∧ v3 < (v1.len : Int)) (
    (H.ldI .i64 v1.b ((v1.o + (v3 : Int).toNat * 2) + (1 : Int).toNat * 1)).bind fun x13 =>
    (H.apN 3 v2 [.int .i64 (w64 (x3 - x5)), .int .i64 (w64 (x7 - x9)), .int .i64 (w64 ((w64 ((w64 (x3 - x5)) * x11)) + (w64 ((w64 (x7 - x9)) * x13))))] 1).bind fun x14 =>
    r54_l0 app k_ v1 x14.1 (w64 (v3 + 1)) x14.2)))))))
  else
    (some (v2, H))
noncomputable def r54 (app : App) (a0 : Sl) (H : Hp) : Option (Sl × Hp) :=
  (r56 app a0 H).bind fun p1 =>
  ck ((0 : Int) ≤ 0 ∧ 0 < (p1.1.len : Int)) (
  (p1.2.ldI .i64 p1.1.b ((p1.1.o + (0 : Int).toNat * 2) + (1 : Int).toNat * 1)).bind fun x3 =>
  ck ((0 : Int) ≤ (w64 ((p1.1.len : Int) - 1)) ∧ (w64 ((p1.1.len : Int) - 1)) < (p1.1.len : Int)) (
  (p1.2.ldI .i64 p1.1.b ((p1.1.o + (w64 ((p1.1.len : Int) - 1) : Int).toNat * 2) + (0 : Int).toNat * 1)).bind fun x5 =>
  lt (p1.2.push (.cells [.int .i64 0, .int .i64 1, .int .i64 x3, .int .i64 1, .int .i64 0, .int .i64 x5] false)) fun H6 =>
  r54_l0 app FUEL p1.1 ⟨false, p1.2.n, 0, 2, 2, 0⟩ 1 H6))
/- 78 (congou/deals.line).rest -/
def ret78 : Int → AV := fun r => .int .i64 r
noncomputable def r78 (a0_0 : Int) (a0_1 : Int) (a0_2 : Int) (a1_0 : Int) (a1_1 : Int) (H : Hp) : Option (Int × Hp) :=
  lt ((H.push (.cells [.int .i64 a0_0, .int .i64 a0_1, .int .i64 a0_2] false)).push (.cells [.int .i64 a1_0, .int .i64 a1_1] false)) fun H1 =>
  (H1.ldI .i64 H.n (0 + 2)).bind fun x2 =>
  (H1.ldI .i64 H.n (0 + 0)).bind fun x3 =>
  (H1.ldI .i64 ((H.push (.cells [.int .i64 a0_0, .int .i64 a0_1, .int .i64 a0_2] false)).n) (0 + (0 : Int).toNat * 1)).bind fun x4 =>
  (H1.ldI .i64 H.n (0 + 1)).bind fun x5 =>
  (H1.ldI .i64 ((H.push (.cells [.int .i64 a0_0, .int .i64 a0_1, .int .i64 a0_2] false)).n) (0 + (1 : Int).toNat * 1)).bind fun x6 =>
  some (w64 ((w64 (x2 - (w64 (x3 * x4)))) - (w64 (x5 * x6))), H1)
/- 64 congou/deals.read -/
def ret64 : Sl × Int → AV := fun r => .tup [.sl r.1, .int .i64 r.2]
noncomputable def r64_l0 (app : App) : Nat → Nat → Sl → Sl → Int → Int → Hp → Option ((Sl × Int) × Hp)
  | 0, _, _, _, _, _, _ => none
  | k_ + 1, v1, v2, v3, v4, v5, H => if v5 < v4 then
    (ck ((0 : Int) ≤ v5 ∧ v5 < (v3.len : Int)) (
    (H.ldI .i64 v3.b (v3.o + (v5 : Int).toNat * 3)).bind fun x3 =>
    (H.ldI .i64 v3.b ((v3.o + (v5 : Int).toNat * 3) + 1)).bind fun x4 =>
    (H.ldI .i64 v3.b ((v3.o + (v5 : Int).toNat * 3) + 2)).bind fun x5 =>
    ((H.push (.cells [.int .i64 0, .int .i64 0, .int .i64 0] false)).sts H.n 0 [.int .i64 x3, .int .i64 x4, .int .i64 x5]).bind fun H6 =>
    (H6.ldI .i64 H.n 0).bind fun x7 =>
    (H6.ldI .i64 H.n (0 + 1)).bind fun x8 =>
    (H6.ldI .i64 H.n (0 + 2)).bind fun x9 =>
    (H6.ldI .i64 v1 0).bind fun x10 =>
    (H6.ldI .i64 v1 (0 + 1)).bind fun x11 =>
    (r78 x7 x8 x9 x10 x11 H0).bind fun p12 =>
    if p12.1 ≤ 0 then
      (some ((⟨true, 0, 0, 0, 0, 0⟩, 4), H6))
    else
      (r64_l0 app k_ v1 v2 v3 v4 (w64 (v5 + 1)) H6)))
  else
    (some ((v2, 0), H))
noncomputable def r64_j1 (app : App) (v1 : Nat) (v2 : Sl) (v3 : Bool) (H : Hp) : Option ((Sl × Int) × Hp) :=
  if v3 = true then
    (some ((⟨true, 0, 0, 0, 0, 0⟩, 2), H))
  else
    ((r54 app v2 H).bind fun p2 =>
    r64_l0 app FUEL v1 v2 p2.1 (p2.1.len : Int) 0 p2.2)
noncomputable def r64 (app : App) (a0 : Sl) (a1_0 : Int) (a1_1 : Int) (H : Hp) : Option ((Sl × Int) × Hp) :=
  lt (H.push (.cells [.int .i64 a1_0, .int .i64 a1_1] false)) fun H1 =>
  (r52 a0 H1).bind fun p2 =>
  if p2.1 = true then
    ((p2.2.ldI .i64 H.n (0 + (0 : Int).toNat * 1)).bind fun x4 =>
    (r70 x4 H0).bind fun p5 =>
    if p5.1 = true then
      ((p2.2.ldI .i64 H.n (0 + (1 : Int).toNat * 1)).bind fun x7 =>
      (r70 x7 H0).bind fun p8 =>
      r64_j1 app H.n a0 (!p8.1) p2.2)
    else
      (r64_j1 app H.n a0 true p2.2))
  else
    (r64_j1 app H.n a0 true p2.2)
/- 68 congou/deals.compare -/
def ret68 : Int → AV := fun r => .int .i64 r
noncomputable def r68 (a0_0 : Int) (a0_1 : Int) (a1_0 : Int) (a1_1 : Int) (H : Hp) : Option (Int × Hp) :=
  lt ((H.push (.cells [.int .i64 a0_0, .int .i64 a0_1] false)).push (.cells [.int .i64 a1_0, .int .i64 a1_1] false)) fun H1 =>
  (H1.ldI .i64 H.n (0 + 0)).bind fun x2 =>
  (H1.ldI .i64 ((H.push (.cells [.int .i64 a0_0, .int .i64 a0_1] false)).n) (0 + 1)).bind fun x3 =>
  (H1.ldI .i64 ((H.push (.cells [.int .i64 a0_0, .int .i64 a0_1] false)).n) (0 + 0)).bind fun x4 =>
  (H1.ldI .i64 H.n (0 + 1)).bind fun x5 =>
  (r80 (w64 (x2 * x3)) (w64 (x4 * x5)) H0).bind fun p6 =>
  some (p6.1, H1)
/- 79 congou/deals.along -/
def ret79 : Int × Int → AV := fun r => .agg [.int .i64 r.1, .int .i64 r.2]
noncomputable def r79 (a0 : Int) (a1_0 : Int) (a1_1 : Int) (a2_0 : Int) (a2_1 : Int) (H : Hp) : Option ((Int × Int) × Hp) :=
  lt (((H.push (.cells [.int .i64 a1_0, .int .i64 a1_1] false)).push (.cells [.int .i64 a2_0, .int .i64 a2_1] false)).push (.cells [.int .i64 0, .int .i64 0] false)) fun H1 =>
  (H1.ldI .i64 H.n (0 + 0)).bind fun x2 =>
  (H1.ldI .i64 ((H.push (.cells [.int .i64 a1_0, .int .i64 a1_1] false)).n) (0 + 0)).bind fun x3 =>
  (H1.ldI .i64 H.n (0 + 1)).bind fun x4 =>
  (H1.ldI .i64 ((H.push (.cells [.int .i64 a1_0, .int .i64 a1_1] false)).n) (0 + 1)).bind fun x5 =>
  (r48 (w64 (x2 * x3)) (w64 (x4 * x5)) H0).bind fun p6 =>
  ((H1.push (.cells [.int .i64 0, .int .i64 0] false)).sts H1.n 0 [.int .i64 p6.1.1, .int .i64 p6.1.2]).bind fun H7 =>
  (H7.ldI .i64 H1.n (0 + 1)).bind fun x8 =>
  (H7.ldI .i64 H1.n (0 + 0)).bind fun x9 =>
  (H7.ldI .i64 H1.n (0 + 1)).bind fun x10 =>
  (r48 (w64 ((w64 (a0 * x8)) + x9)) x10 H0).bind fun p11 =>
  (H7.sts (((H.push (.cells [.int .i64 a1_0, .int .i64 a1_1] false)).push (.cells [.int .i64 a2_0, .int .i64 a2_1] false)).n) 0 [.int .i64 p11.1.1, .int .i64 p11.1.2]).bind fun H12 =>
  (H12.ldI .i64 (((H.push (.cells [.int .i64 a1_0, .int .i64 a1_1] false)).push (.cells [.int .i64 a2_0, .int .i64 a2_1] false)).n) 0).bind fun x13 =>
  (H12.ldI .i64 (((H.push (.cells [.int .i64 a1_0, .int .i64 a1_1] false)).push (.cells [.int .i64 a2_0, .int .i64 a2_1] false)).n) (0 + 1)).bind fun x14 =>
  some ((x13, x14), H12)
/- 65 (congou/deals.offers).far -/
def ret65 : Int × Int × Int × Int → AV := fun r => .agg [.int .i64 r.1, .int .i64 r.2.1, .int .i64 r.2.2.1, .int .i64 r.2.2.2]
noncomputable def r65_j1 (app : App) (kt0 : Nat → Nat → Nat → Nat → Nat → Sl → Int → Int → Hp → Option ((Int × Int × Int × Int) × Hp)) (v1 : Nat) (v2 : Nat) (v3 : Nat) (v4 : Nat) (v5 : Nat) (v6 : Nat) (v7 : Sl) (v8 : Int) (v9 : Int) (v10 : Bool) (H : Hp) : Option ((Int × Int × Int × Int) × Hp) :=
  if v10 = true then
    ((H.ldI .i64 v6 0).bind fun x2 =>
    (H.ldI .i64 v6 (0 + 1)).bind fun x3 =>
    (H.sts v5 0 [.int .i64 x2, .int .i64 x3]).bind fun H4 =>
    kt0 v1 v2 v3 v4 v5 v7 v8 (w64 (v9 + 1)) H4)
  else
    (kt0 v1 v2 v3 v4 v5 v7 v8 (w64 (v9 + 1)) H)
noncomputable def r65_l0 (app : App) : Nat → Nat → Nat → Nat → Nat → Nat → Sl → Int → Int → Hp → Option ((Int × Int × Int × Int) × Hp)
  | 0, _, _, _, _, _, _, _, _, _ => none
  | k_ + 1, v1, v2, v3, v4, v5, v6, v7, v8, H => if v8 < v7 then
    (ck ((0 : Int) ≤ v8 ∧ v8 < (v6.len : Int)) (
    (H.ldI .i64 v6.b (v6.o + (v8 : Int).toNat * 3)).bind fun x3 =>
    (H.ldI .i64 v6.b ((v6.o + (v8 : Int).toNat * 3) + 1)).bind fun x4 =>
    (H.ldI .i64 v6.b ((v6.o + (v8 : Int).toNat * 3) + 2)).bind fun x5 =>
    ((H.push (.cells [.int .i64 0, .int .i64 0, .int .i64 0] false)).sts H.n 0 [.int .i64 x3, .int .i64 x4, .int .i64 x5]).bind fun H6 =>
    (H6.ldI .i64 H.n (0 + 0)).bind fun x7 =>
    (H6.ldI .i64 v2 (0 + 0)).bind fun x8 =>
    (H6.ldI .i64 v3 (0 + 1)).bind fun x9 =>
    (H6.ldI .i64 H.n (0 + 1)).bind fun x10 =>
    (H6.ldI .i64 v3 (0 + 0)).bind fun x11 =>
    (H6.ldI .i64 v2 (0 + 1)).bind fun x12 =>
    if (w64 ((w64 ((w64 (x7 * x8)) * x9)) + (w64 ((w64 (x10 * x11)) * x12)))) = 0 then
      (r65_l0 app k_ v1 v2 v3 v4 v5 v6 v7 (w64 (v8 + 1)) H6)
    else
      ((H6.ldI .i64 H.n 0).bind fun x14 =>
      (H6.ldI .i64 H.n (0 + 1)).bind fun x15 =>
      (H6.ldI .i64 H.n (0 + 2)).bind fun x16 =>
      (H6.ldI .i64 v1 0).bind fun x17 =>
      (H6.ldI .i64 v1 (0 + 1)).bind fun x18 =>
      (r78 x14 x15 x16 x17 x18 H0).bind fun p19 =>
      (H6.ldI .i64 v2 (0 + 1)).bind fun x20 =>
      (H6.ldI .i64 v3 (0 + 1)).bind fun x21 =>
      (r48 (w64 ((w64 (p19.1 * x20)) * x21)) (w64 ((w64 ((w64 (x7 * x8)) * x9)) + (w64 ((w64 (x10 * x11)) * x12)))) H0).bind fun p22 =>
      ((H6.push (.cells [.int .i64 0, .int .i64 0] false)).sts H6.n 0 [.int .i64 p22.1.1, .int .i64 p22.1.2]).bind fun H23 =>
      ck ((H6.push (.cells [.int .i64 0, .int .i64 0] false)).ldI .i64 H.n 0 = some x14) (
      ck ((H6.push (.cells [.int .i64 0, .int .i64 0] false)).ldI .i64 H.n (0 + 1) = some x15) (
      ck ((H6.push (.cells [.int .i64 0, .int .i64 0] false)).ldI .i64 H.n (0 + 2) = some x16) (
      ck ((H6.push (.cells [.int .i64 0, .int .i64 0] false)).ldI .i64 v1 0 = some x17) (
      ck ((H6.push (.cells [.int .i64 0, .int .i64 0] false)).ldI .i64 v1 (0 + 1) = some x18) (
      ck ((H6.push (.cells [.int .i64 0, .int .i64 0] false)).ldI .i64 v2 (0 + 1) = some x20) (
      ck ((H6.push (.cells [.int .i64 0, .int .i64 0] false)).ldI .i64 v3 (0 + 1) = some x21) (
      (H23.ldI .i64 v5 (0 + 1)).bind fun x31 =>
      if x31 = 0 then
        (r65_j1 app (fun v1_ v2_ v3_ v4_ v5_ v6_ v7_ v8_ H_ => r65_l0 app k_ v1_ v2_ v3_ v4_ v5_ v6_ v7_ v8_ H_) v1 v2 v3 v4 v5 H6.n v6 v7 v8 true H23)
      else
        ((H23.ldI .i64 H6.n 0).bind fun x33 =>
        (H23.ldI .i64 H6.n (0 + 1)).bind fun x34 =>
        (H23.ldI .i64 v5 0).bind fun x35 =>
        (H23.ldI .i64 v5 (0 + 1)).bind fun x36 =>
        (r68 x33 x34 x35 x36 H0).bind fun p37 =>
        r65_j1 app (fun v1_ v2_ v3_ v4_ v5_ v6_ v7_ v8_ H_ => r65_l0 app k_ v1_ v2_ v3_ v4_ v5_ v6_ v7_ v8_ H_) v1 v2 v3 v4 v5 H6.n v6 v7 v8 (decide (p37.1 < 0)) H23)))))))))))
  else
    ((H.ldI .i64 v1 (0 + (0 : Int).toNat * 1)).bind fun x38 =>
    (H.ldI .i64 v5 0).bind fun x39 =>
    (H.ldI .i64 v5 (0 + 1)).bind fun x40 =>
    (H.ldI .i64 v2 0).bind fun x41 =>
    (H.ldI .i64 v2 (0 + 1)).bind fun x42 =>
    (r79 x38 x39 x40 x41 x42 H0).bind fun p43 =>
    (H.ldI .i64 v1 (0 + (1 : Int).toNat * 1)).bind fun x44 =>
    (H.ldI .i64 v5 0).bind fun x45 =>
    (H.ldI .i64 v5 (0 + 1)).bind fun x46 =>
    (H.ldI .i64 v3 0).bind fun x47 =>
    (H.ldI .i64 v3 (0 + 1)).bind fun x48 =>
    (r79 x44 x45 x46 x47 x48 H0).bind fun p49 =>
    (H.sts v4 0 [.int .i64 p43.1.1, .int .i64 p43.1.2, .int .i64 p49.1.1, .int .i64 p49.1.2]).bind fun H50 =>
    (H50.ldI .i64 v4 0).bind fun x51 =>
    (H50.ldI .i64 v4 (0 + 1)).bind fun x52 =>
    (H50.ldI .i64 v4 (0 + 2)).bind fun x53 =>
    (H50.ldI .i64 v4 (0 + 3)).bind fun x54 =>
    some ((x51, x52, x53, x54), H50))
noncomputable def r65 (app : App) (a0 : Sl) (a1_0 : Int) (a1_1 : Int) (a2_0 : Int) (a2_1 : Int) (a3_0 : Int) (a3_1 : Int) (H : Hp) : Option ((Int × Int × Int × Int) × Hp) :=
  lt ((((H.push (.cells [.int .i64 a1_0, .int .i64 a1_1] false)).push (.cells [.int .i64 a2_0, .int .i64 a2_1] false)).push (.cells [.int .i64 a3_0, .int .i64 a3_1] false)).push (.cells [.int .i64 0, .int .i64 0, .int .i64 0, .int .i64 0] false)) fun H1 =>
  ((H1.push (.cells [.int .i64 0, .int .i64 0] false)).sts H1.n 0 [.int .i64 0, .int .i64 0]).bind fun H2 =>
  (r54 app a0 H2).bind fun p3 =>
  r65_l0 app FUEL H.n ((H.push (.cells [.int .i64 a1_0, .int .i64 a1_1] false)).n) (((H.push (.cells [.int .i64 a1_0, .int .i64 a1_1] false)).push (.cells [.int .i64 a2_0, .int .i64 a2_1] false)).n) ((((H.push (.cells [.int .i64 a1_0, .int .i64 a1_1] false)).push (.cells [.int .i64 a2_0, .int .i64 a2_1] false)).push (.cells [.int .i64 a3_0, .int .i64 a3_1] false)).n) H1.n p3.1 (p3.1.len : Int) 0 p3.2
/- 40 congou/deals.Halves -/
def ret40 : Int × Int × Int × Int × Int → AV := fun r => .tup [.agg [.int .i64 r.1, .int .i64 r.2.1, .int .i64 r.2.2.1, .int .i64 r.2.2.2.1], .int .i64 r.2.2.2.2]
noncomputable def r40 (app : App) (a0 : Sl) (a1_0 : Int) (a1_1 : Int) (H : Hp) : Option ((Int × Int × Int × Int × Int) × Hp) :=
  lt ((H.push (.cells [.int .i64 a1_0, .int .i64 a1_1] false)).push (.cells [.int .i64 0, .int .i64 0, .int .i64 0, .int .i64 0] false)) fun H1 =>
  (H1.ldI .i64 H.n 0).bind fun x2 =>
  (H1.ldI .i64 H.n (0 + 1)).bind fun x3 =>
  (r64 app a0 x2 x3 H1).bind fun p4 =>
  if p4.1.2 ≠ 0 then
    ((p4.2.sts ((H.push (.cells [.int .i64 a1_0, .int .i64 a1_1] false)).n) 0 [.int .i64 0, .int .i64 0, .int .i64 0, .int .i64 0]).bind fun H6 =>
    (H6.ldI .i64 ((H.push (.cells [.int .i64 a1_0, .int .i64 a1_1] false)).n) 0).bind fun x7 =>
    (H6.ldI .i64 ((H.push (.cells [.int .i64 a1_0, .int .i64 a1_1] false)).n) (0 + 1)).bind fun x8 =>
    (H6.ldI .i64 ((H.push (.cells [.int .i64 a1_0, .int .i64 a1_1] false)).n) (0 + 2)).bind fun x9 =>
    (H6.ldI .i64 ((H.push (.cells [.int .i64 a1_0, .int .i64 a1_1] false)).n) (0 + 3)).bind fun x10 =>
    some ((x7, x8, x9, x10, p4.1.2), H6))
  else
    ((r48 1 1 H0).bind fun p11 =>
    ((p4.2.push (.cells [.int .i64 0, .int .i64 0] false)).sts p4.2.n 0 [.int .i64 p11.1.1, .int .i64 p11.1.2]).bind fun H12 =>
    (H12.ldI .i64 H.n 0).bind fun x13 =>
    (H12.ldI .i64 H.n (0 + 1)).bind fun x14 =>
    (H12.ldI .i64 p4.2.n 0).bind fun x15 =>
    (H12.ldI .i64 p4.2.n (0 + 1)).bind fun x16 =>
    (H12.ldI .i64 p4.2.n 0).bind fun x17 =>
    (H12.ldI .i64 p4.2.n (0 + 1)).bind fun x18 =>
    (r65 app p4.1.1 x13 x14 x15 x16 x17 x18 H12).bind fun p19 =>
    (p19.2.sts ((H.push (.cells [.int .i64 a1_0, .int .i64 a1_1] false)).n) 0 [.int .i64 p19.1.1, .int .i64 p19.1.2.1, .int .i64 p19.1.2.2.1, .int .i64 p19.1.2.2.2]).bind fun H20 =>
    (H20.ldI .i64 ((H.push (.cells [.int .i64 a1_0, .int .i64 a1_1] false)).n) 0).bind fun x21 =>
    (H20.ldI .i64 ((H.push (.cells [.int .i64 a1_0, .int .i64 a1_1] false)).n) (0 + 1)).bind fun x22 =>
    (H20.ldI .i64 ((H.push (.cells [.int .i64 a1_0, .int .i64 a1_1] false)).n) (0 + 2)).bind fun x23 =>
    (H20.ldI .i64 ((H.push (.cells [.int .i64 a1_0, .int .i64 a1_1] false)).n) (0 + 3)).bind fun x24 =>
    some ((x21, x22, x23, x24, 0), H20))
/- 19 congou/congoulaw05.awake -/
def ret19 : Bool → AV := fun r => .bool r
noncomputable def r19 (app : App) (H : Hp) : Option (Bool × Hp) :=
  (r40 app ⟨false, H.n, 0, 2, 2, 0⟩ 0 0 (H.push (.cells [.int .i64 0, .int .i64 10, .int .i64 10, .int .i64 0] false))).bind fun p1 =>
  ((p1.2.push (.cells [.int .i64 0, .int .i64 0, .int .i64 0, .int .i64 0] false)).sts p1.2.n 0 [.int .i64 p1.1.1, .int .i64 p1.1.2.1, .int .i64 p1.1.2.2.1, .int .i64 p1.1.2.2.2.1]).bind fun H2 =>
  if p1.1.2.2.2.2 = 0 then
    ((H2.ldI .i64 p1.2.n 0).bind fun x4 =>
    (H2.ldI .i64 p1.2.n (0 + 1)).bind fun x5 =>
    (H2.ldI .i64 p1.2.n (0 + 2)).bind fun x6 =>
    (H2.ldI .i64 p1.2.n (0 + 3)).bind fun x7 =>
    some ((((x4 == 5) && (x5 == 1)) && ((x6 == 5) && (x7 == 1))), H2))
  else
    (some (false, H2))
/- 22 congou/congouref05.Less -/
def ret22 : Bool → AV := fun r => .bool r
noncomputable def r22 (a0_0 : Int) (a0_1 : Int) (a1_0 : Int) (a1_1 : Int) (H : Hp) : Option (Bool × Hp) :=
  lt ((H.push (.cells [.int .i64 a0_0, .int .i64 a0_1] false)).push (.cells [.int .i64 a1_0, .int .i64 a1_1] false)) fun H1 =>
  (H1.ldI .i64 H.n (0 + 0)).bind fun x2 =>
  (H1.ldI .i64 ((H.push (.cells [.int .i64 a0_0, .int .i64 a0_1] false)).n) (0 + 1)).bind fun x3 =>
  (H1.ldI .i64 ((H.push (.cells [.int .i64 a0_0, .int .i64 a0_1] false)).n) (0 + 0)).bind fun x4 =>
  (H1.ldI .i64 H.n (0 + 1)).bind fun x5 =>
  some ((decide ((w64 (x2 * x3)) < (w64 (x4 * x5)))), H1)
/- 4 congou/congoulaw05.DealsNear -/
def ret4 : Bool → AV := fun r => .bool r
noncomputable def r4_j2 (app : App) (v1 : Int) (v2 : Nat) (v3 : Nat) (v4 : Nat) (v5 : Bool) (H : Hp) : Option (Bool × Hp) :=
  if v5 = true then
    (some (false, H))
  else
    (if (Int.tmod v1 2) = 0 then
      ((H.ldI .i64 v2 0).bind fun x3 =>
      (H.ldI .i64 v2 (0 + 1)).bind fun x4 =>
      (H.ldI .i64 v4 0).bind fun x5 =>
      (H.ldI .i64 v4 (0 + 1)).bind fun x6 =>
      (r22 x3 x4 x5 x6 H0).bind fun p7 =>
      if p7.1 = true then
        (if (Int.tmod v1 2) = 1 then
          ((H.ldI .i64 v4 0).bind fun x10 =>
          (H.ldI .i64 v4 (0 + 1)).bind fun x11 =>
          (H.ldI .i64 v2 0).bind fun x12 =>
          (H.ldI .i64 v2 (0 + 1)).bind fun x13 =>
          (r22 x10 x11 x12 x13 H0).bind fun p14 =>
          if p14.1 = true then
            (some (false, H))
          else
            ((H.ldI .i64 v3 0).bind fun x16 =>
            (H.ldI .i64 v3 (0 + 1)).bind fun x17 =>
            (H.ldI .i64 v4 0).bind fun x18 =>
            (H.ldI .i64 v4 (0 + 1)).bind fun x19 =>
            (r22 x16 x17 x18 x19 H0).bind fun p20 =>
            if p20.1 = true then
              (some (false, H))
            else
              ((app 19 [] H).bind fun p22 =>
              (p22.1.asB).bind fun x23 =>
              some (x23, p22.2))))
        else
          (some (false, H)))
      else
        ((H.ldI .i64 v4 0).bind fun x24 =>
        (H.ldI .i64 v4 (0 + 1)).bind fun x25 =>
        (H.ldI .i64 v3 0).bind fun x26 =>
        (H.ldI .i64 v3 (0 + 1)).bind fun x27 =>
        (r22 x24 x25 x26 x27 H0).bind fun p28 =>
        if p28.1 = true then
          (if (Int.tmod v1 2) = 1 then
            ((H.ldI .i64 v4 0).bind fun x31 =>
            (H.ldI .i64 v4 (0 + 1)).bind fun x32 =>
            (H.ldI .i64 v2 0).bind fun x33 =>
            (H.ldI .i64 v2 (0 + 1)).bind fun x34 =>
            (r22 x31 x32 x33 x34 H0).bind fun p35 =>
            if p35.1 = true then
              (some (false, H))
            else
              ((H.ldI .i64 v3 0).bind fun x37 =>
              (H.ldI .i64 v3 (0 + 1)).bind fun x38 =>
              (H.ldI .i64 v4 0).bind fun x39 =>
              (H.ldI .i64 v4 (0 + 1)).bind fun x40 =>
              (r22 x37 x38 x39 x40 H0).bind fun p41 =>
              if p41.1 = true then
                (some (false, H))
              else
                ((app 19 [] H).bind fun p43 =>
                (p43.1.asB).bind fun x44 =>
                some (x44, p43.2))))
          else
            (some (false, H)))
        else
          ((app 19 [] H).bind fun p45 =>
          (p45.1.asB).bind fun x46 =>
          some (x46, p45.2))))
    else
      (if (Int.tmod v1 2) = 1 then
        ((H.ldI .i64 v4 0).bind fun x48 =>
        (H.ldI .i64 v4 (0 + 1)).bind fun x49 =>
        (H.ldI .i64 v2 0).bind fun x50 =>
        (H.ldI .i64 v2 (0 + 1)).bind fun x51 =>
        (r22 x48 x49 x50 x51 H0).bind fun p52 =>
        if p52.1 = true then
          (some (false, H))
        else
          ((H.ldI .i64 v3 0).bind fun x54 =>
          (H.ldI .i64 v3 (0 + 1)).bind fun x55 =>
          (H.ldI .i64 v4 0).bind fun x56 =>
          (H.ldI .i64 v4 (0 + 1)).bind fun x57 =>
          (r22 x54 x55 x56 x57 H0).bind fun p58 =>
          if p58.1 = true then
            (some (false, H))
          else
            ((app 19 [] H).bind fun p60 =>
            (p60.1.asB).bind fun x61 =>
            some (x61, p60.2))))
      else
        (some (false, H))))
noncomputable def r4_j1 (app : App) (v1 : Int) (v2 : Int) (v3 : Int) (v4 : Nat) (v5 : Nat) (v6 : Bool) (H : Hp) : Option (Bool × Hp) :=
  if v6 = true then
    (some (false, H))
  else
    (if 6 < v1 then
      ((app 19 [] H).bind fun p3 =>
      (p3.1.asB).bind fun x4 =>
      some (x4, p3.2))
    else
      ((r15 (w64 (v1 + 2)) v2 v3 H0).bind fun p5 =>
      ((H.push (.cells [.int .i64 0, .int .i64 0] false)).sts H.n 0 [.int .i64 p5.1.1, .int .i64 p5.1.2.1]).bind fun H6 =>
      if p5.1.2.2 ≠ 0 then
        (r4_j2 app v1 v4 v5 H.n true H6)
      else
        ((H6.ldI .i64 H.n (0 + 1)).bind fun x8 =>
        if x8 < 1 then
          (r4_j2 app v1 v4 v5 H.n true H6)
        else
          ((H6.ldI .i64 H.n (0 + 1)).bind fun x10 =>
          if 1000000000 < x10 then
            (r4_j2 app v1 v4 v5 H.n true H6)
          else
            ((H6.ldI .i64 H.n (0 + 0)).bind fun x12 =>
            if x12 < 0 then
              (r4_j2 app v1 v4 v5 H.n true H6)
            else
              ((H6.ldI .i64 H.n (0 + 0)).bind fun x14 =>
              (H6.ldI .i64 H.n (0 + 1)).bind fun x15 =>
              r4_j2 app v1 v4 v5 H.n (decide (x15 < x14)) H6))))))
noncomputable def r4_j0 (app : App) (v1 : Int) (v2 : Int) (v3 : Int) (v4 : Nat) (v5 : Int) (v6 : Nat) (v7 : Int) (v8 : Bool) (H : Hp) : Option (Bool × Hp) :=
  if v8 = true then
    (if v5 = 2 then
      ((app 19 [] H).bind fun p3 =>
      (p3.1.asB).bind fun x4 =>
      some (x4, p3.2))
    else
      (if v7 = 2 then
        ((app 19 [] H).bind fun p6 =>
        (p6.1.asB).bind fun x7 =>
        some (x7, p6.2))
      else
        (some (false, H))))
  else
    ((H.ldI .i64 v4 (0 + 1)).bind fun x8 =>
    if x8 < 1 then
      (r4_j1 app v1 v2 v3 v4 v6 true H)
    else
      ((H.ldI .i64 v4 (0 + 1)).bind fun x10 =>
      if 1000000000 < x10 then
        (r4_j1 app v1 v2 v3 v4 v6 true H)
      else
        ((H.ldI .i64 v4 (0 + 0)).bind fun x12 =>
        if x12 < 0 then
          (r4_j1 app v1 v2 v3 v4 v6 true H)
        else
          ((H.ldI .i64 v4 (0 + 0)).bind fun x14 =>
          (H.ldI .i64 v4 (0 + 1)).bind fun x15 =>
          if x15 < x14 then
            (r4_j1 app v1 v2 v3 v4 v6 true H)
          else
            ((H.ldI .i64 v6 (0 + 1)).bind fun x17 =>
            if x17 < 1 then
              (r4_j1 app v1 v2 v3 v4 v6 true H)
            else
              ((H.ldI .i64 v6 (0 + 1)).bind fun x19 =>
              if 100 < x19 then
                (r4_j1 app v1 v2 v3 v4 v6 true H)
              else
                ((H.ldI .i64 v6 (0 + 0)).bind fun x21 =>
                if x21 < 0 then
                  (r4_j1 app v1 v2 v3 v4 v6 true H)
                else
                  ((H.ldI .i64 v6 (0 + 0)).bind fun x23 =>
                  (H.ldI .i64 v6 (0 + 1)).bind fun x24 =>
                  if x24 < x23 then
                    (r4_j1 app v1 v2 v3 v4 v6 true H)
                  else
                    (if (Int.tmod v1 2) = 0 then
                      ((H.ldI .i64 v4 0).bind fun x27 =>
                      (H.ldI .i64 v4 (0 + 1)).bind fun x28 =>
                      (H.ldI .i64 v6 0).bind fun x29 =>
                      (H.ldI .i64 v6 (0 + 1)).bind fun x30 =>
                      (r22 x27 x28 x29 x30 H0).bind fun p31 =>
                      if p31.1 = true then
                        (r4_j1 app v1 v2 v3 v4 v6 true H)
                      else
                        (if (Int.tmod v1 2) = 1 then
                          ((H.ldI .i64 v6 0).bind fun x34 =>
                          (H.ldI .i64 v6 (0 + 1)).bind fun x35 =>
                          (H.ldI .i64 v4 0).bind fun x36 =>
                          (H.ldI .i64 v4 (0 + 1)).bind fun x37 =>
                          (r22 x34 x35 x36 x37 H0).bind fun p38 =>
                          r4_j1 app v1 v2 v3 v4 v6 p38.1 H)
                        else
                          (r4_j1 app v1 v2 v3 v4 v6 false H)))
                    else
                      (if (Int.tmod v1 2) = 1 then
                        ((H.ldI .i64 v6 0).bind fun x40 =>
                        (H.ldI .i64 v6 (0 + 1)).bind fun x41 =>
                        (H.ldI .i64 v4 0).bind fun x42 =>
                        (H.ldI .i64 v4 (0 + 1)).bind fun x43 =>
                        (r22 x40 x41 x42 x43 H0).bind fun p44 =>
                        r4_j1 app v1 v2 v3 v4 v6 p44.1 H)
                      else
                        (r4_j1 app v1 v2 v3 v4 v6 false H)))))))))))
noncomputable def r4 (app : App) (a0 : Int) (a1 : Int) (a2 : Int) (H : Hp) : Option (Bool × Hp) :=
  (r15 a0 a1 a2 H0).bind fun p1 =>
  ((H.push (.cells [.int .i64 0, .int .i64 0] false)).sts H.n 0 [.int .i64 p1.1.1, .int .i64 p1.1.2.1]).bind fun H2 =>
  (r16 a1 a2 H0).bind fun p3 =>
  ((H2.push (.cells [.int .i64 0, .int .i64 0] false)).sts H2.n 0 [.int .i64 p3.1.1, .int .i64 p3.1.2.1]).bind fun H4 =>
  if p1.1.2.2 ≠ 0 then
    (r4_j0 app a0 a1 a2 H.n p1.1.2.2 H2.n p3.1.2.2 true H4)
  else
    (if p3.1.2.2 ≠ 0 then
      (r4_j0 app a0 a1 a2 H.n p1.1.2.2 H2.n p3.1.2.2 true H4)
    else
      ((r17 a1 a2 H0).bind fun p7 =>
      if p7.1 = true then
        (if a0 < 0 then
          (r4_j0 app a0 a1 a2 H.n p1.1.2.2 H2.n p3.1.2.2 true H4)
        else
          (r4_j0 app a0 a1 a2 H.n p1.1.2.2 H2.n p3.1.2.2 (decide (8 < a0)) H4))
      else
        (r4_j0 app a0 a1 a2 H.n p1.1.2.2 H2.n p3.1.2.2 true H4)))
/- 84 slices.Values[congou/deals.offers,[2]int]$1 -/
def ret84 : Unit → AV := fun _ => .tup []
noncomputable def r84_l0 (app : App) : Nat → AV → Sl → Int → Int → Hp → Option (Unit × Hp)
  | 0, _, _, _, _, _ => none
  | k_ + 1, v1, v2, v3, v4, H => if v4 < v3 then
    (ck ((0 : Int) ≤ v4 ∧ v4 < (v2.len : Int)) (
    (H.ldI .i64 v2.b (v2.o + (v4 : Int).toNat * 2)).bind fun x3 =>
    (H.ldI .i64 v2.b ((v2.o + (v4 : Int).toNat * 2) + 1)).bind fun x4 =>
    ((H.push (.cells [.int .i64 0, .int .i64 0] false)).sts H.n 0 [.int .i64 x3, .int .i64 x4]).bind fun H5 =>
    (H5.ldI .i64 H.n 0).bind fun x6 =>
    (H5.ldI .i64 H.n (0 + 1)).bind fun x7 =>
    (callv app v1 [.agg [.int .i64 x6, .int .i64 x7]] H5).bind fun p8 =>
    (p8.1.asB).bind fun x9 =>
    if x9 = true then
      (r84_l0 app k_ v1 v2 v3 (w64 (v4 + 1)) p8.2)
    else
      (some ((), p8.2))))
  else
    (some ((), H))
noncomputable def r84 (app : App) (a0 : AV) (c0 : Nat) (H : Hp) : Option (Unit × Hp) :=
  (H.ldSl c0 0).bind fun x1 =>
  r84_l0 app FUEL a0 x1 (x1.len : Int) 0 H
end Go.Lt.P5
