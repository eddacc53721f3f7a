/- PRINTED BY A PROGRAM OF OURS: what each function that 'CutsInside' reaches computes on the abstract heap, and that the translated code does just that. Nothing is asked of the input. -/
import Derived.Test.YteefkljbmjjncaaG7T
set_option linter.unusedVariables false
set_option linter.unusedSimpArgs false
set_option maxRecDepth 100000
set_option maxHeartbeats 4000000
namespace Go.Lt.P2
open Go Go.Lt Go.Proofs
/- 113 slices.IndexFunc[[]int,int] -/
def ret113 : Int → AV := fun r => .int .i64 r
noncomputable def r113_l0 (app : App) : Nat → Sl → AV → Int → Int → Hp → Option (Int × Hp)
  | 0, _, _, _, _, _ => none
  | k_ + 1, v1, v2, v3, v4, H => if v4 < v3 then
    (ck ((0 : Int) ≤ v4 ∧ v4 < (v1.len : Int)) (
    (H.ldI .i64 v1.b (v1.o + (v4 : Int).toNat * 1)).bind fun x3 =>
    (callv app v2 [.int .i64 x3] H).bind fun p4 =>
    (p4.1.asB).bind fun x5 =>
    if x5 = true then
      (some (v4, p4.2))
    else
      (r113_l0 app k_ v1 v2 v3 (w64 (v4 + 1)) p4.2)))
  else
    (some ((-1), H))
noncomputable def r113 (app : App) (a0 : Sl) (a1 : AV) (H : Hp) : Option (Int × Hp) :=
  r113_l0 app FUEL a0 a1 (a0.len : Int) 0 H
/- 105 slices.ContainsFunc[[]int,int] -/
def ret105 : Bool → AV := fun r => .bool r
noncomputable def r105 (app : App) (a0 : Sl) (a1 : AV) (H : Hp) : Option (Bool × Hp) :=
  (r113 app a0 a1 H).bind fun p1 =>
  some ((decide (0 ≤ p1.1)), p1.2)
/- 79 congou/cuts.within -/
def ret79 : Bool → AV := fun r => .bool r
noncomputable def r79 (app : App) (a0 : Int) (a1 : Sl) (H : Hp) : Option (Bool × Hp) :=
  lt (H.push (.cells [.int .i64 a0] false)) fun H1 =>
  (r105 app a1 (.fn 106 [] [.ptr H.n 0]) H1).bind fun p2 =>
  some ((!p2.1), p2.2)
/- 111 slices.IndexFunc[congou/cuts.plate,congou/cuts.Side] -/
def ret111 : Int → AV := fun r => .int .i64 r
noncomputable def r111_l0 (app : App) : Nat → Sl → AV → Int → Int → Hp → Option (Int × Hp)
  | 0, _, _, _, _, _ => none
  | k_ + 1, v1, v2, v3, v4, H => if v4 < v3 then
    (ck ((0 : Int) ≤ v4 ∧ v4 < (v1.len : Int)) (
    (H.ldI .i64 v1.b (v1.o + (v4 : Int).toNat * 3)).bind fun x3 =>
    (H.ldI .i64 v1.b ((v1.o + (v4 : Int).toNat * 3) + 1)).bind fun x4 =>
    (H.ldI .i64 v1.b ((v1.o + (v4 : Int).toNat * 3) + 2)).bind fun x5 =>
    (callv app v2 [.agg [.int .i64 x3, .int .i64 x4, .int .i64 x5]] H).bind fun p6 =>
    (p6.1.asB).bind fun x7 =>
    if x7 = true then
      (some (v4, p6.2))
    else
      (r111_l0 app k_ v1 v2 v3 (w64 (v4 + 1)) p6.2)))
  else
    (some ((-1), H))
noncomputable def r111 (app : App) (a0 : Sl) (a1 : AV) (H : Hp) : Option (Int × Hp) :=
  r111_l0 app FUEL a0 a1 (a0.len : Int) 0 H
/- 92 slices.ContainsFunc[congou/cuts.plate,congou/cuts.Side] -/
def ret92 : Bool → AV := fun r => .bool r
noncomputable def r92 (app : App) (a0 : Sl) (a1 : AV) (H : Hp) : Option (Bool × Hp) :=
  (r111 app a0 a1 H).bind fun p1 =>
  some ((decide (0 ≤ p1.1)), p1.2)
/- 63 (congou/cuts.plate).valid -/
def ret63 : Bool → AV := fun r => .bool r
noncomputable def r63_j2 (app : App) (kt1 : Sl → Sl → Int → Int → Hp → Option (Bool × Hp)) (v1 : Sl) (v2 : Sl) (v3 : Int) (v4 : Int) (v5 : Bool) (H : Hp) : Option (Bool × Hp) :=
  if v5 = true then
    (some (false, H))
  else
    (kt1 v1 v2 v3 (w64 (v4 + 1)) H)
noncomputable def r63_l4 (app : App) (kt3 : Sl → Sl → Int → Int → Hp → Option (Bool × Hp)) : Nat → Sl → Sl → Int → Int → Sl → Int → Int → Hp → Option (Bool × Hp)
  | 0, _, _, _, _, _, _, _, _ => none
  | k_ + 1, v1, v2, v3, v4, v5, v6, v7, H => if v7 < v6 then
    (ck ((0 : Int) ≤ v7 ∧ v7 < (v5.len : Int)) (
    (H.ldI .i64 v5.b (v5.o + (v7 : Int).toNat * 2)).bind fun x3 =>
    (H.ldI .i64 v5.b ((v5.o + (v7 : Int).toNat * 2) + 1)).bind fun x4 =>
    ((H.push (.cells [.int .i64 0, .int .i64 0] false)).sts H.n 0 [.int .i64 x3, .int .i64 x4]).bind fun H5 =>
    (r92 app v1 (.fn 93 [] [.ptr H.n 0]) H5).bind fun p6 =>
    if p6.1 = true then
      (r63_l4 app kt3 k_ v1 v2 v3 v4 v5 v6 (w64 (v7 + 1)) p6.2)
    else
      (some (false, p6.2))))
  else
    (kt3 v1 v2 v3 (w64 (v4 + 1)) H)
noncomputable def r63_l3 (app : App) : Nat → Sl → Sl → Int → Int → Hp → Option (Bool × Hp)
  | 0, _, _, _, _, _ => none
  | k_ + 1, v1, v2, v3, v4, H => if v4 < v3 then
    (ck ((0 : Int) ≤ v4 ∧ v4 < (v2.len : Int)) (
    (H.ldI .i64 v2.b (v2.o + (v4 : Int).toNat * 3)).bind fun x3 =>
    (H.ldI .i64 v2.b ((v2.o + (v4 : Int).toNat * 3) + 1)).bind fun x4 =>
    (H.ldI .i64 v2.b ((v2.o + (v4 : Int).toNat * 3) + 2)).bind fun x5 =>
    ((H.push (.cells [.int .i64 0, .int .i64 0, .int .i64 0] false)).sts H.n 0 [.int .i64 x3, .int .i64 x4, .int .i64 x5]).bind fun H6 =>
    (H6.ldI .i64 H.n (0 + 1)).bind fun x7 =>
    (H6.ldI .i64 H.n (0 + 0)).bind fun x8 =>
    (H6.ldI .i64 H.n (0 + 1)).bind fun x9 =>
    (H6.ldI .i64 H.n (0 + 0)).bind fun x10 =>
    lt (H6.push (.cells [.int .i64 (w64 (0 - x7)), .int .i64 x8, .int .i64 x9, .int .i64 (w64 (0 - x10))] false)) fun H11 =>
    r63_l4 app (fun v1_ v2_ v3_ v4_ H_ => r63_l3 app k_ v1_ v2_ v3_ v4_ H_) FUEL v1 v2 v3 v4 ⟨false, H6.n, 0, 2, 2, 0⟩ ((⟨false, H6.n, 0, 2, 2, 0⟩ : Sl).len : Int) 0 H11))
  else
    (some (true, H))
noncomputable def r63_l1 (app : App) : Nat → Sl → Sl → Int → Int → Hp → Option (Bool × Hp)
  | 0, _, _, _, _, _ => none
  | k_ + 1, v1, v2, v3, v4, H => if v4 < v3 then
    (ck ((0 : Int) ≤ v4 ∧ v4 < (v2.len : Int)) (
    (H.ldI .i64 v2.b (v2.o + (v4 : Int).toNat * 3)).bind fun x3 =>
    (H.ldI .i64 v2.b ((v2.o + (v4 : Int).toNat * 3) + 1)).bind fun x4 =>
    (H.ldI .i64 v2.b ((v2.o + (v4 : Int).toNat * 3) + 2)).bind fun x5 =>
    ((H.push (.cells [.int .i64 0, .int .i64 0, .int .i64 0] false)).sts H.n 0 [.int .i64 x3, .int .i64 x4, .int .i64 x5]).bind fun H6 =>
    (H6.ldI .i64 H.n (0 + 0)).bind fun x7 =>
    if x7 = 0 then
      ((H6.ldI .i64 H.n (0 + 1)).bind fun x9 =>
      if x9 = 0 then
        (r63_j2 app (fun v1_ v2_ v3_ v4_ H_ => r63_l1 app k_ v1_ v2_ v3_ v4_ H_) v1 v2 v3 v4 true H6)
      else
        ((H6.ldI .i64 H.n (0 + 0)).bind fun x11 =>
        (H6.ldI .i64 H.n (0 + 1)).bind fun x12 =>
        (r79 app 4 ⟨false, H6.n, 0, 2, 2, 0⟩ (H6.push (.cells [.int .i64 x11, .int .i64 x12] false))).bind fun p13 =>
        if p13.1 = true then
          ((p13.2.ldI .i64 H.n (0 + 2)).bind fun x15 =>
          (r79 app 40 ⟨false, p13.2.n, 0, 1, 1, 0⟩ (p13.2.push (.cells [.int .i64 x15] false))).bind fun p16 =>
          r63_j2 app (fun v1_ v2_ v3_ v4_ H_ => r63_l1 app k_ v1_ v2_ v3_ v4_ H_) v1 v2 v3 v4 (!p16.1) p16.2)
        else
          (r63_j2 app (fun v1_ v2_ v3_ v4_ H_ => r63_l1 app k_ v1_ v2_ v3_ v4_ H_) v1 v2 v3 v4 true p13.2)))
    else
      ((H6.ldI .i64 H.n (0 + 0)).bind fun x17 =>
      (H6.ldI .i64 H.n (0 + 1)).bind fun x18 =>
      (r79 app 4 ⟨false, H6.n, 0, 2, 2, 0⟩ (H6.push (.cells [.int .i64 x17, .int .i64 x18] false))).bind fun p19 =>
      if p19.1 = true then
        ((p19.2.ldI .i64 H.n (0 + 2)).bind fun x21 =>
        (r79 app 40 ⟨false, p19.2.n, 0, 1, 1, 0⟩ (p19.2.push (.cells [.int .i64 x21] false))).bind fun p22 =>
        r63_j2 app (fun v1_ v2_ v3_ v4_ H_ => r63_l1 app k_ v1_ v2_ v3_ v4_ H_) v1 v2 v3 v4 (!p22.1) p22.2)
      else
        (r63_j2 app (fun v1_ v2_ v3_ v4_ H_ => r63_l1 app k_ v1_ v2_ v3_ v4_ H_) v1 v2 v3 v4 true p19.2))))
  else
    (r63_l3 app FUEL v1 v1 (v1.len : Int) 0 H)
noncomputable def r63_j0 (app : App) (v1 : Sl) (v2 : Bool) (H : Hp) : Option (Bool × Hp) :=
  if v2 = true then
    (some (false, H))
  else
    (r63_l1 app FUEL v1 v1 (v1.len : Int) 0 H)
noncomputable def r63 (app : App) (a0 : Sl) (H : Hp) : Option (Bool × Hp) :=
  if (a0.len : Int) < 3 then
    (r63_j0 app a0 true H)
  else
    (r63_j0 app a0 (decide (6 < (a0.len : Int))) H)
/- 94 congou/cuts.gcd -/
def ret94 : Int → AV := fun r => .int .i64 r
noncomputable def r94_l0 : Nat → Int → Int → Hp → Option (Int × Hp)
  | 0, _, _, _ => none
  | k_ + 1, v1, v2, H => if v2 ≠ 0 then
    (ck (v2 ≠ 0) (
    r94_l0 k_ v2 (Int.tmod v1 v2) H))
  else
    (some ((if v1 < (w64 (0 - v1)) then (w64 (0 - v1)) else v1), H))
noncomputable def r94 (a0 : Int) (a1 : Int) (H : Hp) : Option (Int × Hp) :=
  r94_l0 FUEL a0 a1 H
/- 64 congou/cuts.isFrac -/
def ret64 : Bool → AV := fun r => .bool r
noncomputable def r64 (a0_0 : Int) (a0_1 : Int) (a1 : Int) (a2 : Int) (H : Hp) : Option (Bool × Hp) :=
  lt (H.push (.cells [.int .i64 a0_0, .int .i64 a0_1] false)) fun H1 =>
  (H1.ldI .i64 H.n (0 + 1)).bind fun x2 =>
  if 1 ≤ x2 then
    ((H1.ldI .i64 H.n (0 + 1)).bind fun x4 =>
    if x4 ≤ 100 then
      ((H1.ldI .i64 H.n (0 + 0)).bind fun x6 =>
      (H1.ldI .i64 H.n (0 + 1)).bind fun x7 =>
      if (w64 (a1 * x7)) ≤ x6 then
        ((H1.ldI .i64 H.n (0 + 0)).bind fun x9 =>
        (H1.ldI .i64 H.n (0 + 1)).bind fun x10 =>
        if x9 ≤ (w64 (a2 * x10)) then
          ((H1.ldI .i64 H.n (0 + 0)).bind fun x12 =>
          (H1.ldI .i64 H.n (0 + 1)).bind fun x13 =>
          (r94 x12 x13 H0).bind fun p14 =>
          some ((decide (p14.1 = 1)), H1))
        else
          (some (false, H1)))
      else
        (some (false, H1)))
    else
      (some (false, H1)))
  else
    (some (false, H1))
/- 65 (congou/cuts.plate).has -/
def ret65 : Bool → AV := fun r => .bool r
noncomputable def r65 (app : App) (a0 : Sl) (a1_0 : Int) (a1_1 : Int) (a1_2 : Int) (a1_3 : Int) (H : Hp) : Option (Bool × Hp) :=
  lt (H.push (.cells [.int .i64 a1_0, .int .i64 a1_1, .int .i64 a1_2, .int .i64 a1_3] false)) fun H1 =>
  (r92 app a0 (.fn 95 [] [.ptr H.n 0]) H1).bind fun p2 =>
  some ((!p2.1), p2.2)
/- 68 congou/cuts.down -/
def ret68 : Int → AV := fun r => .int .i64 r
noncomputable def r68_j0 (v1 : Int) (v2 : Bool) (H : Hp) : Option (Int × Hp) :=
  if v2 = true then
    (some (w64 (v1 - 1), H))
  else
    (some (v1, H))
noncomputable def r68 (a0_0 : Int) (a0_1 : Int) (H : Hp) : Option (Int × Hp) :=
  lt (H.push (.cells [.int .i64 a0_0, .int .i64 a0_1] false)) fun H1 =>
  (H1.ldI .i64 H.n (0 + 0)).bind fun x2 =>
  (H1.ldI .i64 H.n (0 + 1)).bind fun x3 =>
  ck (x3 ≠ 0) (
  (H1.ldI .i64 H.n (0 + 0)).bind fun x5 =>
  if x5 < 0 then
    ((H1.ldI .i64 H.n (0 + 1)).bind fun x7 =>
    (H1.ldI .i64 H.n (0 + 0)).bind fun x8 =>
    r68_j0 (w64 (Int.tdiv x2 x3)) (decide ((w64 ((w64 (Int.tdiv x2 x3)) * x7)) ≠ x8)) H1)
  else
    (r68_j0 (w64 (Int.tdiv x2 x3)) false H1))
/- 100 congou/cuts.frac -/
def ret100 : Int × Int → AV := fun r => .agg [.int .i64 r.1, .int .i64 r.2]
noncomputable def r100_j0 (v1 : Int) (v2 : Int) (v3 : Nat) (H : Hp) : Option ((Int × Int) × Hp) :=
  (r94 v1 v2 H0).bind fun p1 =>
  ck (p1.1 ≠ 0) (
  ck (p1.1 ≠ 0) (
  (H.sts v3 0 [.int .i64 (w64 (Int.tdiv v1 p1.1)), .int .i64 (w64 (Int.tdiv v2 p1.1))]).bind fun H4 =>
  (H4.ldI .i64 v3 0).bind fun x5 =>
  (H4.ldI .i64 v3 (0 + 1)).bind fun x6 =>
  some ((x5, x6), H4)))
noncomputable def r100 (a0 : Int) (a1 : Int) (H : Hp) : Option ((Int × Int) × Hp) :=
  lt (H.push (.cells [.int .i64 0, .int .i64 0] false)) fun H1 =>
  if a1 < 0 then
    (r100_j0 (w64 (0 - a0)) (w64 (0 - a1)) H.n H1)
  else
    (r100_j0 a0 a1 H.n H1)
/- 98 congou/cuts.plus -/
def ret98 : Int × Int → AV := fun r => .agg [.int .i64 r.1, .int .i64 r.2]
noncomputable def r98 (a0_0 : Int) (a0_1 : Int) (a1_0 : Int) (a1_1 : Int) (H : Hp) : Option ((Int × Int) × Hp) :=
  lt (((H.push (.cells [.int .i64 a0_0, .int .i64 a0_1] false)).push (.cells [.int .i64 a1_0, .int .i64 a1_1] false)).push (.cells [.int .i64 0, .int .i64 0] false)) fun H1 =>
  (H1.ldI .i64 H.n (0 + 0)).bind fun x2 =>
  (H1.ldI .i64 ((H.push (.cells [.int .i64 a0_0, .int .i64 a0_1] false)).n) (0 + 1)).bind fun x3 =>
  (H1.ldI .i64 ((H.push (.cells [.int .i64 a0_0, .int .i64 a0_1] false)).n) (0 + 0)).bind fun x4 =>
  (H1.ldI .i64 H.n (0 + 1)).bind fun x5 =>
  (H1.ldI .i64 H.n (0 + 1)).bind fun x6 =>
  (H1.ldI .i64 ((H.push (.cells [.int .i64 a0_0, .int .i64 a0_1] false)).n) (0 + 1)).bind fun x7 =>
  (r100 (w64 ((w64 (x2 * x3)) + (w64 (x4 * x5)))) (w64 (x6 * x7)) H0).bind fun p8 =>
  (H1.sts (((H.push (.cells [.int .i64 a0_0, .int .i64 a0_1] false)).push (.cells [.int .i64 a1_0, .int .i64 a1_1] false)).n) 0 [.int .i64 p8.1.1, .int .i64 p8.1.2]).bind fun H9 =>
  (H9.ldI .i64 (((H.push (.cells [.int .i64 a0_0, .int .i64 a0_1] false)).push (.cells [.int .i64 a1_0, .int .i64 a1_1] false)).n) 0).bind fun x10 =>
  (H9.ldI .i64 (((H.push (.cells [.int .i64 a0_0, .int .i64 a0_1] false)).push (.cells [.int .i64 a1_0, .int .i64 a1_1] false)).n) (0 + 1)).bind fun x11 =>
  some ((x10, x11), H9)
/- 99 congou/cuts.times -/
def ret99 : Int × Int → AV := fun r => .agg [.int .i64 r.1, .int .i64 r.2]
noncomputable def r99 (a0 : Int) (a1_0 : Int) (a1_1 : Int) (H : Hp) : Option ((Int × Int) × Hp) :=
  lt ((H.push (.cells [.int .i64 a1_0, .int .i64 a1_1] false)).push (.cells [.int .i64 0, .int .i64 0] false)) fun H1 =>
  (H1.ldI .i64 H.n (0 + 0)).bind fun x2 =>
  (H1.ldI .i64 H.n (0 + 1)).bind fun x3 =>
  (r100 (w64 (a0 * x2)) x3 H0).bind fun p4 =>
  (H1.sts ((H.push (.cells [.int .i64 a1_0, .int .i64 a1_1] false)).n) 0 [.int .i64 p4.1.1, .int .i64 p4.1.2]).bind fun H5 =>
  (H5.ldI .i64 ((H.push (.cells [.int .i64 a1_0, .int .i64 a1_1] false)).n) 0).bind fun x6 =>
  (H5.ldI .i64 ((H.push (.cells [.int .i64 a1_0, .int .i64 a1_1] false)).n) (0 + 1)).bind fun x7 =>
  some ((x6, x7), H5)
/- 69 (congou/cuts.Side).at -/
def ret69 : Int × Int → AV := fun r => .agg [.int .i64 r.1, .int .i64 r.2]
noncomputable def r69 (a0_0 : Int) (a0_1 : Int) (a0_2 : Int) (a1_0 : Int) (a1_1 : Int) (a1_2 : Int) (a1_3 : Int) (H : Hp) : Option ((Int × Int) × Hp) :=
  lt (((H.push (.cells [.int .i64 a0_0, .int .i64 a0_1, .int .i64 a0_2] false)).push (.cells [.int .i64 a1_0, .int .i64 a1_1, .int .i64 a1_2, .int .i64 a1_3] false)).push (.cells [.int .i64 0, .int .i64 0] false)) fun H1 =>
  (H1.ldI .i64 H.n (0 + 0)).bind fun x2 =>
  (H1.ldI .i64 ((H.push (.cells [.int .i64 a0_0, .int .i64 a0_1, .int .i64 a0_2] false)).n) (0 + 0)).bind fun x3 =>
  (H1.ldI .i64 ((H.push (.cells [.int .i64 a0_0, .int .i64 a0_1, .int .i64 a0_2] false)).n) ((0 + 0) + 1)).bind fun x4 =>
  (r99 x2 x3 x4 H0).bind fun p5 =>
  (H1.ldI .i64 H.n (0 + 1)).bind fun x6 =>
  (H1.ldI .i64 ((H.push (.cells [.int .i64 a0_0, .int .i64 a0_1, .int .i64 a0_2] false)).n) (0 + 2)).bind fun x7 =>
  (H1.ldI .i64 ((H.push (.cells [.int .i64 a0_0, .int .i64 a0_1, .int .i64 a0_2] false)).n) ((0 + 2) + 1)).bind fun x8 =>
  (r99 x6 x7 x8 H0).bind fun p9 =>
  (r98 p5.1.1 p5.1.2 p9.1.1 p9.1.2 H0).bind fun p10 =>
  (H1.sts (((H.push (.cells [.int .i64 a0_0, .int .i64 a0_1, .int .i64 a0_2] false)).push (.cells [.int .i64 a1_0, .int .i64 a1_1, .int .i64 a1_2, .int .i64 a1_3] false)).n) 0 [.int .i64 p10.1.1, .int .i64 p10.1.2]).bind fun H11 =>
  (H11.ldI .i64 (((H.push (.cells [.int .i64 a0_0, .int .i64 a0_1, .int .i64 a0_2] false)).push (.cells [.int .i64 a1_0, .int .i64 a1_1, .int .i64 a1_2, .int .i64 a1_3] false)).n) 0).bind fun x12 =>
  (H11.ldI .i64 (((H.push (.cells [.int .i64 a0_0, .int .i64 a0_1, .int .i64 a0_2] false)).push (.cells [.int .i64 a1_0, .int .i64 a1_1, .int .i64 a1_2, .int .i64 a1_3] false)).n) (0 + 1)).bind fun x13 =>
  some ((x12, x13), H11)
/- 107 cmp.isNaN[int] -/
def ret107 : Bool → AV := fun r => .bool r
noncomputable def r107 (a0 : Int) (H : Hp) : Option (Bool × Hp) :=
  some ((decide (a0 ≠ a0)), H)
/- 84 cmp.Compare[int] -/
def ret84 : Int → AV := fun r => .int .i64 r
noncomputable def r84 (a0 : Int) (a1 : Int) (H : Hp) : Option (Int × Hp) :=
  (r107 a0 H0).bind fun p1 =>
  (r107 a1 H0).bind fun p2 =>
  if p1.1 = true then
    (if p2.1 = true then
      (some (0, H))
    else
      (some ((-1), H)))
  else
    (if p2.1 = true then
      (some (1, H))
    else
      (if a0 < a1 then
        (some ((-1), H))
      else
        (if a1 < a0 then
          (some (1, H))
        else
          (some (0, H)))))
/- 89 congou/cuts.compare -/
def ret89 : Int → AV := fun r => .int .i64 r
noncomputable def r89 (a0_0 : Int) (a0_1 : Int) (a1_0 : Int) (a1_1 : Int) (H : Hp) : Option (Int × Hp) :=
  lt ((H.push (.cells [.int .i64 a0_0, .int .i64 a0_1] false)).push (.cells [.int .i64 a1_0, .int .i64 a1_1] false)) fun H1 =>
  (H1.ldI .i64 H.n (0 + 0)).bind fun x2 =>
  (H1.ldI .i64 ((H.push (.cells [.int .i64 a0_0, .int .i64 a0_1] false)).n) (0 + 1)).bind fun x3 =>
  (H1.ldI .i64 ((H.push (.cells [.int .i64 a0_0, .int .i64 a0_1] false)).n) (0 + 0)).bind fun x4 =>
  (H1.ldI .i64 H.n (0 + 1)).bind fun x5 =>
  (r84 (w64 (x2 * x3)) (w64 (x4 * x5)) H0).bind fun p6 =>
  some (p6.1, H1)
/- 70 (congou/cuts.Side).keeps -/
def ret70 : Bool → AV := fun r => .bool r
noncomputable def r70 (a0_0 : Int) (a0_1 : Int) (a0_2 : Int) (a1_0 : Int) (a1_1 : Int) (a1_2 : Int) (a1_3 : Int) (H : Hp) : Option (Bool × Hp) :=
  lt ((H.push (.cells [.int .i64 a0_0, .int .i64 a0_1, .int .i64 a0_2] false)).push (.cells [.int .i64 a1_0, .int .i64 a1_1, .int .i64 a1_2, .int .i64 a1_3] false)) fun H1 =>
  (H1.ldI .i64 H.n 0).bind fun x2 =>
  (H1.ldI .i64 H.n (0 + 1)).bind fun x3 =>
  (H1.ldI .i64 H.n (0 + 2)).bind fun x4 =>
  (H1.ldI .i64 ((H.push (.cells [.int .i64 a0_0, .int .i64 a0_1, .int .i64 a0_2] false)).n) 0).bind fun x5 =>
  (H1.ldI .i64 ((H.push (.cells [.int .i64 a0_0, .int .i64 a0_1, .int .i64 a0_2] false)).n) (0 + 1)).bind fun x6 =>
  (H1.ldI .i64 ((H.push (.cells [.int .i64 a0_0, .int .i64 a0_1, .int .i64 a0_2] false)).n) (0 + 2)).bind fun x7 =>
  (H1.ldI .i64 ((H.push (.cells [.int .i64 a0_0, .int .i64 a0_1, .int .i64 a0_2] false)).n) (0 + 3)).bind fun x8 =>
  (r69 x2 x3 x4 x5 x6 x7 x8 H0).bind fun p9 =>
  (H1.ldI .i64 H.n (0 + 2)).bind fun x10 =>
  (r100 x10 1 H0).bind fun p11 =>
  (r89 p9.1.1 p9.1.2 p11.1.1 p11.1.2 H0).bind fun p12 =>
  some ((decide (p12.1 ≤ 0)), H1)
/- 17 congou/cuts.InRound -/
def ret17 : Bool × Int → AV := fun r => .tup [.bool r.1, .int .i64 r.2]
noncomputable def r17_j0 (app : App) (v1 : Nat) (v2 : Nat) (v3 : Nat) (v4 : Sl) (v5 : Bool) (H : Hp) : Option ((Bool × Int) × Hp) :=
  if v5 = true then
    ((H.st v2 0 (.bool false)).bind fun H2 =>
    (H2.st v3 0 (.int .i64 2)).bind fun H3 =>
    (H3.ldB v2 0).bind fun x4 =>
    (H3.ldI .i64 v3 0).bind fun x5 =>
    some ((x4, x5), H3))
  else
    ((H.ldI .i64 v1 0).bind fun x6 =>
    (H.ldI .i64 v1 (0 + 1)).bind fun x7 =>
    (H.ldI .i64 v1 (0 + 2)).bind fun x8 =>
    (H.ldI .i64 v1 (0 + 3)).bind fun x9 =>
    (r65 app v4 x6 x7 x8 x9 H).bind fun p10 =>
    if p10.1 = true then
      ((callr app (.fn 66 [.sl v4] []) (p10.2.n + 1) ((p10.2.push .dfr).push (.loop .ready none 2 51 [(3, .ptr v1 0), (4, .ptr v2 0), (5, .ptr v3 0)]))).bind fun p12 =>
      (p12.2.lend (p10.2.n + 1)).bind fun q13 =>
      if jmp q13.1 = some 0 then
        ((q13.2.st v2 0 (.bool true)).bind fun H15 =>
        (H15.st v3 0 (.int .i64 0)).bind fun H16 =>
        (H16.ldB v2 0).bind fun x17 =>
        (H16.ldI .i64 v3 0).bind fun x18 =>
        ck (dfrB [p10.2.n] H16 = true) (
        some ((x17, x18), kill [p10.2.n] H16)))
      else
        (if jmp q13.1 = some 1 then
          ((q13.2.ldB v2 0).bind fun x21 =>
          (q13.2.ldI .i64 v3 0).bind fun x22 =>
          ck (dfrB [p10.2.n] q13.2 = true) (
          some ((x21, x22), kill [p10.2.n] q13.2)))
        else
          (none)))
    else
      ((p10.2.st v2 0 (.bool false)).bind fun H24 =>
      (H24.st v3 0 (.int .i64 0)).bind fun H25 =>
      (H25.ldB v2 0).bind fun x26 =>
      (H25.ldI .i64 v3 0).bind fun x27 =>
      some ((x26, x27), H25)))
noncomputable def r17 (app : App) (a0 : Sl) (a1_0 : Int) (a1_1 : Int) (a1_2 : Int) (a1_3 : Int) (H : Hp) : Option ((Bool × Int) × Hp) :=
  lt (((H.push (.cells [.int .i64 a1_0, .int .i64 a1_1, .int .i64 a1_2, .int .i64 a1_3] false)).push (.cells [.bool false] false)).push (.cells [.int .i64 0] false)) fun H1 =>
  (r63 app a0 H1).bind fun p2 =>
  if p2.1 = true then
    ((p2.2.ldI .i64 H.n (0 + 0)).bind fun x4 =>
    (p2.2.ldI .i64 H.n ((0 + 0) + 1)).bind fun x5 =>
    (r64 x4 x5 (-100) 100 H0).bind fun p6 =>
    if p6.1 = true then
      ((p2.2.ldI .i64 H.n (0 + 2)).bind fun x8 =>
      (p2.2.ldI .i64 H.n ((0 + 2) + 1)).bind fun x9 =>
      (r64 x8 x9 (-100) 100 H0).bind fun p10 =>
      r17_j0 app H.n ((H.push (.cells [.int .i64 a1_0, .int .i64 a1_1, .int .i64 a1_2, .int .i64 a1_3] false)).n) (((H.push (.cells [.int .i64 a1_0, .int .i64 a1_1, .int .i64 a1_2, .int .i64 a1_3] false)).push (.cells [.bool false] false)).n) a0 (!p10.1) p2.2)
    else
      (r17_j0 app H.n ((H.push (.cells [.int .i64 a1_0, .int .i64 a1_1, .int .i64 a1_2, .int .i64 a1_3] false)).n) (((H.push (.cells [.int .i64 a1_0, .int .i64 a1_1, .int .i64 a1_2, .int .i64 a1_3] false)).push (.cells [.bool false] false)).n) a0 true p2.2))
  else
    (r17_j0 app H.n ((H.push (.cells [.int .i64 a1_0, .int .i64 a1_1, .int .i64 a1_2, .int .i64 a1_3] false)).n) (((H.push (.cells [.int .i64 a1_0, .int .i64 a1_1, .int .i64 a1_2, .int .i64 a1_3] false)).push (.cells [.bool false] false)).n) a0 true p2.2)
noncomputable def r17q2 (app : App) (l_ : Nat) (v1 : Nat) (v2 : Nat) (v3 : Nat) (y0_0 : Int) (y0_1 : Int) (y0_2 : Int) (y0_3 : Int) (y0_4 : Int) (y0_5 : Int) (y0_6 : Int) (y0_7 : Int) (y0_8 : Int) (y0_9 : Int) (H : Hp) : Option ((Option Code) × Hp) :=
  ((H.push (.cells [.int .i64 0, .int .i64 0, .int .i64 0, .int .i64 0, .int .i64 0, .int .i64 0, .int .i64 0, .int .i64 0, .int .i64 0, .int .i64 0] false)).sts H.n 0 [.int .i64 y0_0, .int .i64 y0_1, .int .i64 y0_2, .int .i64 y0_3, .int .i64 y0_4, .int .i64 y0_5, .int .i64 y0_6, .int .i64 y0_7, .int .i64 y0_8, .int .i64 y0_9]).bind fun H1 =>
  (H1.lbegin l_).bind fun H2 =>
  (H2.ldI .i64 H.n 0).bind fun x3 =>
  (H2.ldI .i64 H.n (0 + 1)).bind fun x4 =>
  (H2.ldI .i64 H.n (0 + 2)).bind fun x5 =>
  (H2.ldI .i64 H.n (0 + 3)).bind fun x6 =>
  (H2.ldI .i64 H.n (0 + 4)).bind fun x7 =>
  (H2.ldI .i64 H.n (0 + 5)).bind fun x8 =>
  (H2.ldI .i64 H.n (0 + 6)).bind fun x9 =>
  (H2.ldI .i64 H.n (0 + 7)).bind fun x10 =>
  (H2.ldI .i64 H.n (0 + 8)).bind fun x11 =>
  (H2.ldI .i64 H.n (0 + 9)).bind fun x12 =>
  ck (H2.isLoop l_ = true) (
  (callr app (.fn 67 [.agg [.int .i64 x3, .int .i64 x4, .int .i64 x5, .int .i64 x6, .int .i64 x7, .int .i64 x8, .int .i64 x9, .int .i64 x10, .int .i64 x11, .int .i64 x12]] []) H2.n (H2.push (.loop .ready none 3 51 [(3, .ptr v1 0), (4, .ptr v2 0), (5, .ptr v3 0), (7, .ptr H.n 0)]))).bind fun p14 =>
  (p14.2.lend H2.n).bind fun q15 =>
  if jmp q15.1 = some 0 then
    (some (none, q15.2))
  else
    (if jmp q15.1 = some 1 then
      (some (some .ret, q15.2))
    else
      (none)))
noncomputable def r17q3 (app : App) (l_ : Nat) (v1 : Nat) (v2 : Nat) (v3 : Nat) (v4 : Nat) (y0 : Int) (y1 : Int) (H : Hp) : Option ((Option Code) × Hp) :=
  (H.lbegin l_).bind fun H1 =>
  ((H1.push (.cells [.int .i64 0, .int .i64 0, .int .i64 0] false)).sts H1.n 0 [.int .i64 y0, .int .i64 y1, .int .i64 0]).bind fun H2 =>
  (H2.ldI .i64 H1.n 0).bind fun x3 =>
  (H2.ldI .i64 H1.n (0 + 1)).bind fun x4 =>
  (H2.ldI .i64 H1.n (0 + 2)).bind fun x5 =>
  (H2.ldI .i64 v4 (0 + 0)).bind fun x6 =>
  (H2.ldI .i64 v4 ((0 + 0) + 1)).bind fun x7 =>
  (H2.ldI .i64 v4 ((0 + 0) + 2)).bind fun x8 =>
  (H2.ldI .i64 v4 ((0 + 0) + 3)).bind fun x9 =>
  (r69 x3 x4 x5 x6 x7 x8 x9 H0).bind fun p10 =>
  (r68 p10.1.1 p10.1.2 H0).bind fun p11 =>
  (H2.st H1.n (0 + 2) (.int .i64 p11.1)).bind fun H12 =>
  (H12.ldI .i64 H1.n 0).bind fun x13 =>
  (H12.ldI .i64 H1.n (0 + 1)).bind fun x14 =>
  (H12.ldI .i64 H1.n (0 + 2)).bind fun x15 =>
  (H12.ldI .i64 v1 0).bind fun x16 =>
  (H12.ldI .i64 v1 (0 + 1)).bind fun x17 =>
  (H12.ldI .i64 v1 (0 + 2)).bind fun x18 =>
  (H12.ldI .i64 v1 (0 + 3)).bind fun x19 =>
  (r70 x13 x14 x15 x16 x17 x18 x19 H0).bind fun p20 =>
  if p20.1 = true then
    (some (none, H12))
  else
    ((H12.st v2 0 (.bool false)).bind fun H22 =>
    (H22.st v3 0 (.int .i64 0)).bind fun H23 =>
    some (some .ret, H23))
/- 18 congou/congoulaw02.Of -/
def ret18 : Sl → AV := fun r => .sl r
noncomputable def r18_l0 : Nat → Sl → Sl → Int → Int → Hp → Option (Sl × Hp)
  | 0, _, _, _, _, _ => none
  | k_ + 1, v1, v2, v3, v4, H => if v4 < v3 then
    (ck ((0 : Int) ≤ v4 ∧ v4 < (v2.len : Int)) (
    (H.ldI .i64 v2.b (v2.o + (v4 : Int).toNat * 3)).bind fun x3 =>
    (H.ldI .i64 v2.b ((v2.o + (v4 : Int).toNat * 3) + 1)).bind fun x4 =>
    (H.ldI .i64 v2.b ((v2.o + (v4 : Int).toNat * 3) + 2)).bind fun x5 =>
    ((H.push (.cells [.int .i64 0, .int .i64 0, .int .i64 0] false)).sts H.n 0 [.int .i64 x3, .int .i64 x4, .int .i64 x5]).bind fun H6 =>
    if v4 < 9 then
      ((H6.ldI .i64 H.n (0 + 0)).bind fun x8 =>
      (H6.ldI .i64 H.n (0 + 1)).bind fun x9 =>
      (H6.ldI .i64 H.n (0 + 2)).bind fun x10 =>
      (H6.apN 3 v1 [.int .i64 x8, .int .i64 x9, .int .i64 x10] 1).bind fun x11 =>
      r18_l0 k_ x11.1 v2 v3 (w64 (v4 + 1)) x11.2)
    else
      (r18_l0 k_ v1 v2 v3 (w64 (v4 + 1)) H6)))
  else
    (some (v1, H))
noncomputable def r18 (a0 : Sl) (H : Hp) : Option (Sl × Hp) :=
  r18_l0 FUEL ⟨true, 0, 0, 0, 0, 0⟩ a0 (a0.len : Int) 0 H
/- 19 congou/congouref02.Plate -/
def ret19 : Bool → AV := fun r => .bool r
noncomputable def r19_j2 (kt1 : Sl → Sl → Int → Int → Hp → Option (Bool × Hp)) (v1 : Sl) (v2 : Sl) (v3 : Int) (v4 : Int) (v5 : Bool) (H : Hp) : Option (Bool × Hp) :=
  if v5 = true then
    (some (false, H))
  else
    (kt1 v1 v2 v3 (w64 (v4 + 1)) H)
noncomputable def r19_l5 (kt4 : Sl → Nat → Int → Sl → Int → Int → Hp → Option (Bool × Hp)) : Nat → Sl → Nat → Int → Bool → Sl → Int → Int → Sl → Int → Int → Hp → Option (Bool × Hp)
  | 0, _, _, _, _, _, _, _, _, _, _, _ => none
  | k_ + 1, v1, v2, v3, v4, v5, v6, v7, v8, v9, v10, H => if v10 < v9 then
    (ck ((0 : Int) ≤ v10 ∧ v10 < (v8.len : Int)) (
    (H.ldI .i64 v8.b (v8.o + (v10 : Int).toNat * 3)).bind fun x3 =>
    (H.ldI .i64 v8.b ((v8.o + (v10 : Int).toNat * 3) + 1)).bind fun x4 =>
    (H.ldI .i64 v8.b ((v8.o + (v10 : Int).toNat * 3) + 2)).bind fun x5 =>
    ((H.push (.cells [.int .i64 0, .int .i64 0, .int .i64 0] false)).sts H.n 0 [.int .i64 x3, .int .i64 x4, .int .i64 x5]).bind fun H6 =>
    if v4 = true then
      ((H6.ldI .i64 H.n (0 + 1)).bind fun x8 =>
      (H6.ldI .i64 v2 (0 + 0)).bind fun x9 =>
      (H6.ldI .i64 H.n (0 + 0)).bind fun x10 =>
      (H6.ldI .i64 v2 (0 + 1)).bind fun x11 =>
      r19_l5 kt4 k_ v1 v2 v3 (decide ((w64 (v3 * (w64 ((w64 (x8 * x9)) - (w64 (x10 * x11)))))) ≤ 0)) v5 v6 v7 v8 v9 (w64 (v10 + 1)) H6)
    else
      (r19_l5 kt4 k_ v1 v2 v3 false v5 v6 v7 v8 v9 (w64 (v10 + 1)) H6)))
  else
    (if v4 = true then
      (some (false, H))
    else
      (kt4 v1 v2 (w64 (v3 + 2)) v5 v6 v7 H))
noncomputable def r19_l4 (kt3 : Sl → Sl → Int → Int → Hp → Option (Bool × Hp)) : Nat → Sl → Nat → Int → Sl → Int → Int → Hp → Option (Bool × Hp)
  | 0, _, _, _, _, _, _, _ => none
  | k_ + 1, v1, v2, v3, v4, v5, v6, H => if v3 ≤ 1 then
    (r19_l5 (fun v1_ v2_ v3_ v4_ v5_ v6_ H_ => r19_l4 kt3 k_ v1_ v2_ v3_ v4_ v5_ v6_ H_) FUEL v1 v2 v3 true v4 v5 v6 v1 (v1.len : Int) 0 H)
  else
    (kt3 v1 v4 v5 (w64 (v6 + 1)) H)
noncomputable def r19_l3 : Nat → Sl → Sl → Int → Int → Hp → Option (Bool × Hp)
  | 0, _, _, _, _, _ => none
  | k_ + 1, v1, v2, v3, v4, H => if v4 < v3 then
    (ck ((0 : Int) ≤ v4 ∧ v4 < (v2.len : Int)) (
    (H.ldI .i64 v2.b (v2.o + (v4 : Int).toNat * 3)).bind fun x3 =>
    (H.ldI .i64 v2.b ((v2.o + (v4 : Int).toNat * 3) + 1)).bind fun x4 =>
    (H.ldI .i64 v2.b ((v2.o + (v4 : Int).toNat * 3) + 2)).bind fun x5 =>
    ((H.push (.cells [.int .i64 0, .int .i64 0, .int .i64 0] false)).sts H.n 0 [.int .i64 x3, .int .i64 x4, .int .i64 x5]).bind fun H6 =>
    r19_l4 (fun v1_ v2_ v3_ v4_ H_ => r19_l3 k_ v1_ v2_ v3_ v4_ H_) FUEL v1 H.n (-1) v2 v3 v4 H6))
  else
    (some (true, H))
noncomputable def r19_l1 : Nat → Sl → Sl → Int → Int → Hp → Option (Bool × Hp)
  | 0, _, _, _, _, _ => none
  | k_ + 1, v1, v2, v3, v4, H => if v4 < v3 then
    (ck ((0 : Int) ≤ v4 ∧ v4 < (v2.len : Int)) (
    (H.ldI .i64 v2.b (v2.o + (v4 : Int).toNat * 3)).bind fun x3 =>
    (H.ldI .i64 v2.b ((v2.o + (v4 : Int).toNat * 3) + 1)).bind fun x4 =>
    (H.ldI .i64 v2.b ((v2.o + (v4 : Int).toNat * 3) + 2)).bind fun x5 =>
    ((H.push (.cells [.int .i64 0, .int .i64 0, .int .i64 0] false)).sts H.n 0 [.int .i64 x3, .int .i64 x4, .int .i64 x5]).bind fun H6 =>
    (H6.ldI .i64 H.n (0 + 0)).bind fun x7 =>
    if x7 < (-4) then
      (r19_j2 (fun v1_ v2_ v3_ v4_ H_ => r19_l1 k_ v1_ v2_ v3_ v4_ H_) v1 v2 v3 v4 true H6)
    else
      ((H6.ldI .i64 H.n (0 + 0)).bind fun x9 =>
      if 4 < x9 then
        (r19_j2 (fun v1_ v2_ v3_ v4_ H_ => r19_l1 k_ v1_ v2_ v3_ v4_ H_) v1 v2 v3 v4 true H6)
      else
        ((H6.ldI .i64 H.n (0 + 1)).bind fun x11 =>
        if x11 < (-4) then
          (r19_j2 (fun v1_ v2_ v3_ v4_ H_ => r19_l1 k_ v1_ v2_ v3_ v4_ H_) v1 v2 v3 v4 true H6)
        else
          ((H6.ldI .i64 H.n (0 + 1)).bind fun x13 =>
          if 4 < x13 then
            (r19_j2 (fun v1_ v2_ v3_ v4_ H_ => r19_l1 k_ v1_ v2_ v3_ v4_ H_) v1 v2 v3 v4 true H6)
          else
            ((H6.ldI .i64 H.n (0 + 0)).bind fun x15 =>
            if x15 = 0 then
              ((H6.ldI .i64 H.n (0 + 1)).bind fun x17 =>
              if x17 = 0 then
                (r19_j2 (fun v1_ v2_ v3_ v4_ H_ => r19_l1 k_ v1_ v2_ v3_ v4_ H_) v1 v2 v3 v4 true H6)
              else
                ((H6.ldI .i64 H.n (0 + 2)).bind fun x19 =>
                if x19 < (-40) then
                  (r19_j2 (fun v1_ v2_ v3_ v4_ H_ => r19_l1 k_ v1_ v2_ v3_ v4_ H_) v1 v2 v3 v4 true H6)
                else
                  ((H6.ldI .i64 H.n (0 + 2)).bind fun x21 =>
                  r19_j2 (fun v1_ v2_ v3_ v4_ H_ => r19_l1 k_ v1_ v2_ v3_ v4_ H_) v1 v2 v3 v4 (decide (40 < x21)) H6)))
            else
              ((H6.ldI .i64 H.n (0 + 2)).bind fun x22 =>
              if x22 < (-40) then
                (r19_j2 (fun v1_ v2_ v3_ v4_ H_ => r19_l1 k_ v1_ v2_ v3_ v4_ H_) v1 v2 v3 v4 true H6)
              else
                ((H6.ldI .i64 H.n (0 + 2)).bind fun x24 =>
                r19_j2 (fun v1_ v2_ v3_ v4_ H_ => r19_l1 k_ v1_ v2_ v3_ v4_ H_) v1 v2 v3 v4 (decide (40 < x24)) H6))))))))
  else
    (r19_l3 FUEL v1 v1 (v1.len : Int) 0 H)
noncomputable def r19_j0 (v1 : Sl) (v2 : Bool) (H : Hp) : Option (Bool × Hp) :=
  if v2 = true then
    (some (false, H))
  else
    (r19_l1 FUEL v1 v1 (v1.len : Int) 0 H)
noncomputable def r19 (a0 : Sl) (H : Hp) : Option (Bool × Hp) :=
  if (a0.len : Int) < 3 then
    (r19_j0 a0 true H)
  else
    (r19_j0 a0 (decide (6 < (a0.len : Int))) H)
/- 56 congou/congouref02.Frac -/
def ret56 : Int × Int → AV := fun r => .agg [.int .i64 r.1, .int .i64 r.2]
noncomputable def r56_l0 : Nat → Int → Int → Nat → Int → Int → Hp → Option ((Int × Int) × Hp)
  | 0, _, _, _, _, _, _ => none
  | k_ + 1, v1, v2, v3, v4, v5, H => if v5 ≠ 0 then
    (ck (v5 ≠ 0) (
    r56_l0 k_ v1 v2 v3 v5 (Int.tmod v4 v5) H))
  else
    (ck (v4 ≠ 0) (
    ck (v4 ≠ 0) (
    (H.sts v3 0 [.int .i64 (w64 (Int.tdiv v1 v4)), .int .i64 (w64 (Int.tdiv v2 v4))]).bind fun H5 =>
    (H5.ldI .i64 v3 0).bind fun x6 =>
    (H5.ldI .i64 v3 (0 + 1)).bind fun x7 =>
    some ((x6, x7), H5))))
noncomputable def r56_j1 (v1 : Int) (v2 : Int) (v3 : Nat) (H : Hp) : Option ((Int × Int) × Hp) :=
  r56_l0 FUEL v1 v2 v3 (if v1 < (w64 (0 - v1)) then (w64 (0 - v1)) else v1) v2 H
noncomputable def r56 (a0 : Int) (a1 : Int) (H : Hp) : Option ((Int × Int) × Hp) :=
  lt (H.push (.cells [.int .i64 0, .int .i64 0] false)) fun H1 =>
  if a1 < 0 then
    (r56_j1 (w64 (0 - a0)) (w64 (0 - a1)) H.n H1)
  else
    (r56_j1 a0 a1 H.n H1)
/- 20 congou/congouref02.IsPoint -/
def ret20 : Bool → AV := fun r => .bool r
noncomputable def r20_j1 (kt0 : Sl → Int → Int → Hp → Option (Bool × Hp)) (v1 : Sl) (v2 : Int) (v3 : Int) (v4 : Bool) (H : Hp) : Option (Bool × Hp) :=
  if v4 = true then
    (some (false, H))
  else
    (kt0 v1 v2 (w64 (v3 + 1)) H)
noncomputable def r20_l0 : Nat → Sl → Int → Int → Hp → Option (Bool × Hp)
  | 0, _, _, _, _ => none
  | k_ + 1, v1, v2, v3, H => if v3 < v2 then
    (ck ((0 : Int) ≤ v3 ∧ v3 < (v1.len : Int)) (
    (H.ldI .i64 v1.b (v1.o + (v3 : Int).toNat * 2)).bind fun x3 =>
    (H.ldI .i64 v1.b ((v1.o + (v3 : Int).toNat * 2) + 1)).bind fun x4 =>
    ((H.push (.cells [.int .i64 0, .int .i64 0] false)).sts H.n 0 [.int .i64 x3, .int .i64 x4]).bind fun H5 =>
    (H5.ldI .i64 H.n (0 + 1)).bind fun x6 =>
    if x6 < 1 then
      (r20_j1 (fun v1_ v2_ v3_ H_ => r20_l0 k_ v1_ v2_ v3_ H_) v1 v2 v3 true H5)
    else
      ((H5.ldI .i64 H.n (0 + 1)).bind fun x8 =>
      if 100 < x8 then
        (r20_j1 (fun v1_ v2_ v3_ H_ => r20_l0 k_ v1_ v2_ v3_ H_) v1 v2 v3 true H5)
      else
        ((H5.ldI .i64 H.n (0 + 0)).bind fun x10 =>
        (H5.ldI .i64 H.n (0 + 1)).bind fun x11 =>
        if x10 < (w64 ((-100) * x11)) then
          (r20_j1 (fun v1_ v2_ v3_ H_ => r20_l0 k_ v1_ v2_ v3_ H_) v1 v2 v3 true H5)
        else
          ((H5.ldI .i64 H.n (0 + 0)).bind fun x13 =>
          (H5.ldI .i64 H.n (0 + 1)).bind fun x14 =>
          if (w64 (100 * x14)) < x13 then
            (r20_j1 (fun v1_ v2_ v3_ H_ => r20_l0 k_ v1_ v2_ v3_ H_) v1 v2 v3 true H5)
          else
            ((H5.ldI .i64 H.n (0 + 0)).bind fun x16 =>
            (H5.ldI .i64 H.n (0 + 1)).bind fun x17 =>
            (r56 x16 x17 H0).bind fun p18 =>
            (H5.ldI .i64 H.n 0).bind fun x19 =>
            (H5.ldI .i64 H.n (0 + 1)).bind fun x20 =>
            r20_j1 (fun v1_ v2_ v3_ H_ => r20_l0 k_ v1_ v2_ v3_ H_) v1 v2 v3 (!((p18.1.1 == x19) && (p18.1.2 == x20))) H5))))))
  else
    (some (true, H))
noncomputable def r20 (a0_0 : Int) (a0_1 : Int) (a0_2 : Int) (a0_3 : Int) (H : Hp) : Option (Bool × Hp) :=
  lt (H.push (.cells [.int .i64 a0_0, .int .i64 a0_1, .int .i64 a0_2, .int .i64 a0_3] false)) fun H1 =>
  (H1.ldI .i64 H.n (0 + 0)).bind fun x2 =>
  (H1.ldI .i64 H.n ((0 + 0) + 1)).bind fun x3 =>
  (H1.ldI .i64 H.n (0 + 2)).bind fun x4 =>
  (H1.ldI .i64 H.n ((0 + 2) + 1)).bind fun x5 =>
  lt (H1.push (.cells [.int .i64 x2, .int .i64 x3, .int .i64 x4, .int .i64 x5] false)) fun H6 =>
  r20_l0 FUEL ⟨false, H1.n, 0, 2, 2, 0⟩ ((⟨false, H1.n, 0, 2, 2, 0⟩ : Sl).len : Int) 0 H6
/- 80 congou/cuts.whole -/
def ret80 : Int × Int × Int × Int → AV := fun r => .agg [.int .i64 r.1, .int .i64 r.2.1, .int .i64 r.2.2.1, .int .i64 r.2.2.2]
noncomputable def r80 (a0 : Int) (a1 : Int) (H : Hp) : Option ((Int × Int × Int × Int) × Hp) :=
  lt (H.push (.cells [.int .i64 0, .int .i64 0, .int .i64 0, .int .i64 0] false)) fun H1 =>
  (r100 a0 1 H0).bind fun p2 =>
  (r100 a1 1 H0).bind fun p3 =>
  (H1.sts H.n 0 [.int .i64 p2.1.1, .int .i64 p2.1.2, .int .i64 p3.1.1, .int .i64 p3.1.2]).bind fun H4 =>
  (H4.ldI .i64 H.n 0).bind fun x5 =>
  (H4.ldI .i64 H.n (0 + 1)).bind fun x6 =>
  (H4.ldI .i64 H.n (0 + 2)).bind fun x7 =>
  (H4.ldI .i64 H.n (0 + 3)).bind fun x8 =>
  some ((x5, x6, x7, x8), H4)
/- 101 (congou/cuts.plate).box -/
def ret101 : Int × Int × Int × Int × Bool → AV := fun r => .tup [.agg [.int .i64 r.1, .int .i64 r.2.1], .agg [.int .i64 r.2.2.1, .int .i64 r.2.2.2.1], .bool r.2.2.2.2]
noncomputable def r101 (app : App) (a0 : Sl) (H : Hp) : Option ((Int × Int × Int × Int × Bool) × Hp) :=
  lt (((H.push (.cells [.int .i64 0, .int .i64 0] false)).push (.cells [.int .i64 0, .int .i64 0] false)).push (.cells [.bool false] false)) fun H1 =>
  (callr app (.fn 66 [.sl a0] []) (H1.n + 1) ((H1.push .dfr).push (.loop .ready none 0 59 [(2, .ptr H.n 0), (3, .ptr ((H.push (.cells [.int .i64 0, .int .i64 0] false)).n) 0), (4, .ptr (((H.push (.cells [.int .i64 0, .int .i64 0] false)).push (.cells [.int .i64 0, .int .i64 0] false)).n) 0)]))).bind fun p2 =>
  (p2.2.lend (H1.n + 1)).bind fun q3 =>
  if jmp q3.1 = some 0 then
    ((q3.2.ldI .i64 H.n 0).bind fun x5 =>
    (q3.2.ldI .i64 H.n (0 + 1)).bind fun x6 =>
    (q3.2.ldI .i64 ((H.push (.cells [.int .i64 0, .int .i64 0] false)).n) 0).bind fun x7 =>
    (q3.2.ldI .i64 ((H.push (.cells [.int .i64 0, .int .i64 0] false)).n) (0 + 1)).bind fun x8 =>
    (q3.2.ldB (((H.push (.cells [.int .i64 0, .int .i64 0] false)).push (.cells [.int .i64 0, .int .i64 0] false)).n) 0).bind fun x9 =>
    (q3.2.sts H.n 0 [.int .i64 x5, .int .i64 x6]).bind fun H10 =>
    (H10.sts ((H.push (.cells [.int .i64 0, .int .i64 0] false)).n) 0 [.int .i64 x7, .int .i64 x8]).bind fun H11 =>
    (H11.st (((H.push (.cells [.int .i64 0, .int .i64 0] false)).push (.cells [.int .i64 0, .int .i64 0] false)).n) 0 (.bool x9)).bind fun H12 =>
    ck (H10.ldI .i64 ((H.push (.cells [.int .i64 0, .int .i64 0] false)).n) 0 = some x7) (
    ck (H10.ldI .i64 ((H.push (.cells [.int .i64 0, .int .i64 0] false)).n) (0 + 1) = some x8) (
    ck (H10.ldB (((H.push (.cells [.int .i64 0, .int .i64 0] false)).push (.cells [.int .i64 0, .int .i64 0] false)).n) 0 = some x9) (
    ck (H11.ldI .i64 ((H.push (.cells [.int .i64 0, .int .i64 0] false)).n) 0 = some x7) (
    ck (H11.ldI .i64 ((H.push (.cells [.int .i64 0, .int .i64 0] false)).n) (0 + 1) = some x8) (
    ck (H11.ldB (((H.push (.cells [.int .i64 0, .int .i64 0] false)).push (.cells [.int .i64 0, .int .i64 0] false)).n) 0 = some x9) (
    (H12.ldI .i64 H.n 0).bind fun x19 =>
    (H12.ldI .i64 H.n (0 + 1)).bind fun x20 =>
    (H12.ldI .i64 ((H.push (.cells [.int .i64 0, .int .i64 0] false)).n) 0).bind fun x21 =>
    (H12.ldI .i64 ((H.push (.cells [.int .i64 0, .int .i64 0] false)).n) (0 + 1)).bind fun x22 =>
    (H12.ldB (((H.push (.cells [.int .i64 0, .int .i64 0] false)).push (.cells [.int .i64 0, .int .i64 0] false)).n) 0).bind fun x23 =>
    ck (dfrB [H1.n] H12 = true) (
    some ((x19, x20, x21, x22, x23), kill [H1.n] H12)))))))))
  else
    (none)
noncomputable def r101q0_j1 (app : App) (l_ : Nat) (kt0 : Nat → Nat → Nat → Nat → Int → Hp → Option ((Option Code) × Hp)) (v1 : Nat) (v2 : Nat) (v3 : Nat) (v4 : Nat) (v5 : Int) (v6 : Int) (v7 : Bool) (H : Hp) : Option ((Option Code) × Hp) :=
  if v7 = true then
    (ck ((0 : Int) ≤ v5 ∧ v5 < ((2 : Nat) : Int)) (
    (H.ldI .i64 v4 (0 + (v5 : Int).toNat * 1)).bind fun x3 =>
    ck ((0 : Int) ≤ v5 ∧ v5 < ((2 : Nat) : Int)) (
    (H.st v2 (0 + (v5 : Int).toNat * 1) (.int .i64 x3)).bind fun H5 =>
    kt0 v1 v2 v3 v4 (w64 (v6 + 1)) H5)))
  else
    (kt0 v1 v2 v3 v4 (w64 (v6 + 1)) H)
noncomputable def r101q0_j2 (app : App) (l_ : Nat) (kt0 : Nat → Nat → Nat → Nat → Int → Hp → Option ((Option Code) × Hp)) (v1 : Nat) (v2 : Nat) (v3 : Nat) (v4 : Nat) (v5 : Int) (v6 : Int) (H : Hp) : Option ((Option Code) × Hp) :=
  (H.ldB v3 0).bind fun x1 =>
  if x1 = true then
    (ck ((0 : Int) ≤ v5 ∧ v5 < ((2 : Nat) : Int)) (
    (H.ldI .i64 v4 (0 + (v5 : Int).toNat * 1)).bind fun x4 =>
    ck ((0 : Int) ≤ v5 ∧ v5 < ((2 : Nat) : Int)) (
    (H.ldI .i64 v2 (0 + (v5 : Int).toNat * 1)).bind fun x6 =>
    r101q0_j1 app l_ kt0 v1 v2 v3 v4 v5 v6 (decide (x6 < x4)) H)))
  else
    (r101q0_j1 app l_ kt0 v1 v2 v3 v4 v5 v6 true H)
noncomputable def r101q0_j3 (app : App) (l_ : Nat) (kt0 : Nat → Nat → Nat → Nat → Int → Hp → Option ((Option Code) × Hp)) (v1 : Nat) (v2 : Nat) (v3 : Nat) (v4 : Nat) (v5 : Int) (v6 : Int) (v7 : Bool) (H : Hp) : Option ((Option Code) × Hp) :=
  if v7 = true then
    (ck ((0 : Int) ≤ v5 ∧ v5 < ((2 : Nat) : Int)) (
    (H.ldI .i64 v4 (0 + (v5 : Int).toNat * 1)).bind fun x3 =>
    ck ((0 : Int) ≤ v5 ∧ v5 < ((2 : Nat) : Int)) (
    (H.st v1 (0 + (v5 : Int).toNat * 1) (.int .i64 x3)).bind fun H5 =>
    r101q0_j2 app l_ kt0 v1 v2 v3 v4 v5 v6 H5)))
  else
    (r101q0_j2 app l_ kt0 v1 v2 v3 v4 v5 v6 H)
noncomputable def r101q0_l0 (app : App) (l_ : Nat) : Nat → Nat → Nat → Nat → Nat → Int → Hp → Option ((Option Code) × Hp)
  | 0, _, _, _, _, _, _ => none
  | k_ + 1, v1, v2, v3, v4, v5, H => if v5 < 2 then
    ((H.ldB v3 0).bind fun x2 =>
    if x2 = true then
      (ck ((0 : Int) ≤ v5 ∧ v5 < ((2 : Nat) : Int)) (
      (H.ldI .i64 v4 (0 + (v5 : Int).toNat * 1)).bind fun x5 =>
      ck ((0 : Int) ≤ v5 ∧ v5 < ((2 : Nat) : Int)) (
      (H.ldI .i64 v1 (0 + (v5 : Int).toNat * 1)).bind fun x7 =>
      r101q0_j3 app l_ (fun v1_ v2_ v3_ v4_ v5_ H_ => r101q0_l0 app l_ k_ v1_ v2_ v3_ v4_ v5_ H_) v1 v2 v3 v4 v5 v5 (decide (x5 < x7)) H)))
    else
      (r101q0_j3 app l_ (fun v1_ v2_ v3_ v4_ v5_ H_ => r101q0_l0 app l_ k_ v1_ v2_ v3_ v4_ v5_ H_) v1 v2 v3 v4 v5 v5 true H))
  else
    ((H.st v3 0 (.bool true)).bind fun H8 =>
    some (none, H8))
noncomputable def r101q0 (app : App) (l_ : Nat) (v1 : Nat) (v2 : Nat) (v3 : Nat) (y0_0 : Int) (y0_1 : Int) (y0_2 : Int) (y0_3 : Int) (y0_4 : Int) (y0_5 : Int) (y0_6 : Int) (y0_7 : Int) (y0_8 : Int) (y0_9 : Int) (H : Hp) : Option ((Option Code) × Hp) :=
  ((H.push (.cells [.int .i64 0, .int .i64 0, .int .i64 0, .int .i64 0, .int .i64 0, .int .i64 0, .int .i64 0, .int .i64 0, .int .i64 0, .int .i64 0] false)).sts H.n 0 [.int .i64 y0_0, .int .i64 y0_1, .int .i64 y0_2, .int .i64 y0_3, .int .i64 y0_4, .int .i64 y0_5, .int .i64 y0_6, .int .i64 y0_7, .int .i64 y0_8, .int .i64 y0_9]).bind fun H1 =>
  (H1.lbegin l_).bind fun H2 =>
  (H2.ldI .i64 H.n ((0 + 0) + 0)).bind fun x3 =>
  (H2.ldI .i64 H.n (((0 + 0) + 0) + 1)).bind fun x4 =>
  (r68 x3 x4 H0).bind fun p5 =>
  (H2.ldI .i64 H.n ((0 + 0) + 2)).bind fun x6 =>
  (H2.ldI .i64 H.n (((0 + 0) + 2) + 1)).bind fun x7 =>
  (r68 x6 x7 H0).bind fun p8 =>
  ((H2.push (.cells [.int .i64 0, .int .i64 0] false)).sts H2.n 0 [.int .i64 p5.1, .int .i64 p8.1]).bind fun H9 =>
  r101q0_l0 app l_ FUEL v1 v2 v3 H2.n 0 H9
/- 71 (congou/cuts.plate).points -/
def ret71 : Sl → AV := fun r => .sl r
noncomputable def r71_l1 (app : App) (kt0 : Sl → Nat → Nat → Sl → Int → Hp → Option (Sl × Hp)) : Nat → Sl → Nat → Nat → Sl → Int → Int → Hp → Option (Sl × Hp)
  | 0, _, _, _, _, _, _, _ => none
  | k_ + 1, v1, v2, v3, v4, v5, v6, H => (H.ldI .i64 v3 (0 + (1 : Int).toNat * 1)).bind fun x1 =>
  if v6 ≤ x1 then
    ((r80 v5 v6 H0).bind fun p3 =>
    (r65 app v1 p3.1.1 p3.1.2.1 p3.1.2.2.1 p3.1.2.2.2 H).bind fun p4 =>
    if p4.1 = true then
      ((p4.2.apN 2 v4 [.int .i64 v5, .int .i64 v6] 1).bind fun x6 =>
      r71_l1 app kt0 k_ v1 v2 v3 x6.1 v5 (w64 (v6 + 1)) x6.2)
    else
      (r71_l1 app kt0 k_ v1 v2 v3 v4 v5 (w64 (v6 + 1)) p4.2))
  else
    (kt0 v1 v2 v3 v4 (w64 (v5 + 1)) H)
noncomputable def r71_l0 (app : App) : Nat → Sl → Nat → Nat → Sl → Int → Hp → Option (Sl × Hp)
  | 0, _, _, _, _, _, _ => none
  | k_ + 1, v1, v2, v3, v4, v5, H => (H.ldI .i64 v3 (0 + (0 : Int).toNat * 1)).bind fun x1 =>
  if v5 ≤ x1 then
    ((H.ldI .i64 v2 (0 + (1 : Int).toNat * 1)).bind fun x3 =>
    r71_l1 app (fun v1_ v2_ v3_ v4_ v5_ H_ => r71_l0 app k_ v1_ v2_ v3_ v4_ v5_ H_) FUEL v1 v2 v3 v4 v5 x3 H)
  else
    (some (v4, H))
noncomputable def r71 (app : App) (a0 : Sl) (H : Hp) : Option (Sl × Hp) :=
  (r101 app a0 H).bind fun p1 =>
  (((p1.2.push (.cells [.int .i64 0, .int .i64 0] false)).push (.cells [.int .i64 0, .int .i64 0] false)).sts p1.2.n 0 [.int .i64 p1.1.1, .int .i64 p1.1.2.1]).bind fun H2 =>
  (H2.sts ((p1.2.push (.cells [.int .i64 0, .int .i64 0] false)).n) 0 [.int .i64 p1.1.2.2.1, .int .i64 p1.1.2.2.2.1]).bind fun H3 =>
  if p1.1.2.2.2.2 = true then
    ((H3.ldI .i64 p1.2.n (0 + (0 : Int).toNat * 1)).bind fun x5 =>
    r71_l0 app FUEL a0 p1.2.n ((p1.2.push (.cells [.int .i64 0, .int .i64 0] false)).n) ⟨true, 0, 0, 0, 0, 0⟩ x5 H3)
  else
    (some (⟨true, 0, 0, 0, 0, 0⟩, H3))
/- 40 congou/cuts.Points -/
def ret40 : Sl × Int → AV := fun r => .tup [.sl r.1, .int .i64 r.2]
noncomputable def r40 (app : App) (a0 : Sl) (H : Hp) : Option ((Sl × Int) × Hp) :=
  (r63 app a0 H).bind fun p1 =>
  if p1.1 = true then
    ((r71 app a0 p1.2).bind fun p3 =>
    some ((p3.1, 0), p3.2))
  else
    (some ((⟨true, 0, 0, 0, 0, 0⟩, 2), p1.2))
/- 21 congou/congoulaw02.awake -/
def ret21 : Bool → AV := fun r => .bool r
noncomputable def r21 (app : App) (H : Hp) : Option (Bool × Hp) :=
  (r40 app ⟨false, H.n, 0, 4, 4, 0⟩ (H.push (.cells [.int .i64 1, .int .i64 0, .int .i64 1, .int .i64 (-1), .int .i64 0, .int .i64 (-1), .int .i64 0, .int .i64 1, .int .i64 2, .int .i64 0, .int .i64 (-1), .int .i64 (-2)] false))).bind fun p1 =>
  if p1.1.2 = 0 then
    (if (p1.1.1.len : Int) = 1 then
      (ck ((0 : Int) ≤ 0 ∧ 0 < (p1.1.1.len : Int)) (
      (p1.2.ldI .i64 p1.1.1.b (p1.1.1.o + (0 : Int).toNat * 2)).bind fun x5 =>
      (p1.2.ldI .i64 p1.1.1.b ((p1.1.1.o + (0 : Int).toNat * 2) + 1)).bind fun x6 =>
      some ((AV.keqs [.int .i64 x5, .int .i64 x6] [.int .i64 1, .int .i64 2]), p1.2)))
    else
      (some (false, p1.2)))
  else
    (some (false, p1.2))
/- 112 slices.IndexFunc[[]congou/api.Frac,congou/api.Frac] -/
def ret112 : Int → AV := fun r => .int .i64 r
noncomputable def r112_l0 (app : App) : Nat → Sl → AV → Int → Int → Hp → Option (Int × Hp)
  | 0, _, _, _, _, _ => none
  | k_ + 1, v1, v2, v3, v4, H => if v4 < v3 then
    (ck ((0 : Int) ≤ v4 ∧ v4 < (v1.len : Int)) (
    (H.ldI .i64 v1.b (v1.o + (v4 : Int).toNat * 2)).bind fun x3 =>
    (H.ldI .i64 v1.b ((v1.o + (v4 : Int).toNat * 2) + 1)).bind fun x4 =>
    (callv app v2 [.agg [.int .i64 x3, .int .i64 x4]] H).bind fun p5 =>
    (p5.1.asB).bind fun x6 =>
    if x6 = true then
      (some (v4, p5.2))
    else
      (r112_l0 app k_ v1 v2 v3 (w64 (v4 + 1)) p5.2)))
  else
    (some ((-1), H))
noncomputable def r112 (app : App) (a0 : Sl) (a1 : AV) (H : Hp) : Option (Int × Hp) :=
  r112_l0 app FUEL a0 a1 (a0.len : Int) 0 H
/- 103 slices.ContainsFunc[[]congou/api.Frac,congou/api.Frac] -/
def ret103 : Bool → AV := fun r => .bool r
noncomputable def r103 (app : App) (a0 : Sl) (a1 : AV) (H : Hp) : Option (Bool × Hp) :=
  (r112 app a0 a1 H).bind fun p1 =>
  some ((decide (0 ≤ p1.1)), p1.2)
/- 104 (congou/cuts.plate).isMultipliers$1 -/
def ret104 : Bool → AV := fun r => .bool r
noncomputable def r104 (a0_0 : Int) (a0_1 : Int) (H : Hp) : Option (Bool × Hp) :=
  lt (H.push (.cells [.int .i64 a0_0, .int .i64 a0_1] false)) fun H1 =>
  (H1.ldI .i64 H.n 0).bind fun x2 =>
  (H1.ldI .i64 H.n (0 + 1)).bind fun x3 =>
  (r64 x2 x3 0 100 H0).bind fun p4 =>
  some ((!p4.1), H1)
/- 76 (congou/cuts.plate).isMultipliers -/
def ret76 : Bool → AV := fun r => .bool r
noncomputable def r76 (app : App) (a0 : Sl) (a1 : Sl) (H : Hp) : Option (Bool × Hp) :=
  (r63 app a0 H).bind fun p1 =>
  if p1.1 = true then
    (if (a1.len : Int) = (a0.len : Int) then
      ((r103 app a1 (.fn 104 [] []) p1.2).bind fun p4 =>
      some ((!p4.1), p4.2))
    else
      (some (false, p1.2)))
  else
    (some (false, p1.2))
/- 77 (congou/cuts.plate).cut -/
def ret77 : Int × Int × Int × Bool → AV := fun r => .tup [.agg [.int .i64 r.1, .int .i64 r.2.1, .int .i64 r.2.2.1], .bool r.2.2.2]
noncomputable def r77_l1 (kt0 : Sl → Nat → Nat → Sl → Int → Int → Hp → Option ((Int × Int × Int × Bool) × Hp)) : Nat → Sl → Nat → Nat → Int → Sl → Int → Int → Int → Int → Int → Int → Hp → Option ((Int × Int × Int × Bool) × Hp)
  | 0, _, _, _, _, _, _, _, _, _, _, _, _ => none
  | k_ + 1, v1, v2, v3, v4, v5, v6, v7, v8, v9, v10, v11, H => if v11 < 3 then
    (ck ((0 : Int) ≤ v11 ∧ v11 < ((3 : Nat) : Int)) (
    (apart false 1 [.int .i64 v8, .int .i64 v9, .int .i64 v10] ((v11 : Int).toNat * 1)).bind fun x3 =>
    (x3.asI .i64).bind fun x4 =>
    ck ((0 : Int) ≤ v11 ∧ v11 < ((3 : Nat) : Int)) (
    (H.ldI .i64 v3 (0 + (v11 : Int).toNat * 2)).bind fun x6 =>
    (H.ldI .i64 v3 ((0 + (v11 : Int).toNat * 2) + 1)).bind fun x7 =>
    ck ((0 : Int) ≤ v4 ∧ v4 < (v1.len : Int)) (
    (H.ldI .i64 v1.b (v1.o + (v4 : Int).toNat * 2)).bind fun x9 =>
    (H.ldI .i64 v1.b ((v1.o + (v4 : Int).toNat * 2) + 1)).bind fun x10 =>
    (r99 x4 x9 x10 H0).bind fun p11 =>
    (r98 x6 x7 p11.1.1 p11.1.2 H0).bind fun p12 =>
    ck ((0 : Int) ≤ v11 ∧ v11 < ((3 : Nat) : Int)) (
    (H.sts v3 (0 + (v11 : Int).toNat * 2) [.int .i64 p12.1.1, .int .i64 p12.1.2]).bind fun H14 =>
    r77_l1 kt0 k_ v1 v2 v3 v4 v5 v6 v7 v8 v9 v10 (w64 (v11 + 1)) H14)))))
  else
    (kt0 v1 v2 v3 v5 v6 (w64 (v7 + 1)) H)
noncomputable def r77_j2 (v1 : Nat) (v2 : Nat) (v3 : Bool) (H : Hp) : Option ((Int × Int × Int × Bool) × Hp) :=
  if v3 = true then
    ((H.sts v1 0 [.int .i64 0, .int .i64 0, .int .i64 0]).bind fun H2 =>
    (H2.ldI .i64 v1 0).bind fun x3 =>
    (H2.ldI .i64 v1 (0 + 1)).bind fun x4 =>
    (H2.ldI .i64 v1 (0 + 2)).bind fun x5 =>
    some ((x3, x4, x5, false), H2))
  else
    ((H.ldI .i64 v2 ((0 + (0 : Int).toNat * 2) + 0)).bind fun x6 =>
    (H.ldI .i64 v2 ((0 + (1 : Int).toNat * 2) + 0)).bind fun x7 =>
    (H.ldI .i64 v2 (0 + (2 : Int).toNat * 2)).bind fun x8 =>
    (H.ldI .i64 v2 ((0 + (2 : Int).toNat * 2) + 1)).bind fun x9 =>
    (r68 x8 x9 H0).bind fun p10 =>
    (H.sts v1 0 [.int .i64 x6, .int .i64 x7, .int .i64 p10.1]).bind fun H11 =>
    (H11.ldI .i64 v1 0).bind fun x12 =>
    (H11.ldI .i64 v1 (0 + 1)).bind fun x13 =>
    (H11.ldI .i64 v1 (0 + 2)).bind fun x14 =>
    some ((x12, x13, x14, true), H11))
noncomputable def r77_l0 : Nat → Sl → Nat → Nat → Sl → Int → Int → Hp → Option ((Int × Int × Int × Bool) × Hp)
  | 0, _, _, _, _, _, _, _ => none
  | k_ + 1, v1, v2, v3, v4, v5, v6, H => if v6 < v5 then
    (ck ((0 : Int) ≤ v6 ∧ v6 < (v4.len : Int)) (
    (H.ldI .i64 v4.b (v4.o + (v6 : Int).toNat * 3)).bind fun x3 =>
    (H.ldI .i64 v4.b ((v4.o + (v6 : Int).toNat * 3) + 1)).bind fun x4 =>
    (H.ldI .i64 v4.b ((v4.o + (v6 : Int).toNat * 3) + 2)).bind fun x5 =>
    ((H.push (.cells [.int .i64 0, .int .i64 0, .int .i64 0] false)).sts H.n 0 [.int .i64 x3, .int .i64 x4, .int .i64 x5]).bind fun H6 =>
    (H6.ldI .i64 H.n (0 + 0)).bind fun x7 =>
    (H6.ldI .i64 H.n (0 + 1)).bind fun x8 =>
    (H6.ldI .i64 H.n (0 + 2)).bind fun x9 =>
    r77_l1 (fun v1_ v2_ v3_ v4_ v5_ v6_ H_ => r77_l0 k_ v1_ v2_ v3_ v4_ v5_ v6_ H_) FUEL v1 v2 v3 v6 v4 v5 v6 x7 x8 x9 0 H6))
  else
    ((H.ldI .i64 v3 ((0 + (0 : Int).toNat * 2) + 1)).bind fun x10 =>
    if x10 ≠ 1 then
      (r77_j2 v2 v3 true H)
    else
      ((H.ldI .i64 v3 ((0 + (1 : Int).toNat * 2) + 1)).bind fun x12 =>
      if x12 ≠ 1 then
        (r77_j2 v2 v3 true H)
      else
        ((H.ldI .i64 v3 ((0 + (0 : Int).toNat * 2) + 0)).bind fun x14 =>
        if x14 = 0 then
          ((H.ldI .i64 v3 ((0 + (1 : Int).toNat * 2) + 0)).bind fun x16 =>
          r77_j2 v2 v3 (decide (x16 = 0)) H)
        else
          (r77_j2 v2 v3 false H))))
noncomputable def r77 (a0 : Sl) (a1 : Sl) (H : Hp) : Option ((Int × Int × Int × Bool) × Hp) :=
  lt (H.push (.cells [.int .i64 0, .int .i64 0, .int .i64 0] false)) fun H1 =>
  (r100 0 1 H0).bind fun p2 =>
  (r100 0 1 H0).bind fun p3 =>
  (r100 0 1 H0).bind fun p4 =>
  ((H1.push (.cells [.int .i64 0, .int .i64 0, .int .i64 0, .int .i64 0, .int .i64 0, .int .i64 0] false)).sts H1.n 0 [.int .i64 p2.1.1, .int .i64 p2.1.2, .int .i64 p3.1.1, .int .i64 p3.1.2, .int .i64 p4.1.1, .int .i64 p4.1.2]).bind fun H5 =>
  r77_l0 FUEL a1 H.n H1.n a0 (a0.len : Int) 0 H5
/- 27 congou/cuts.Cut -/
def ret27 : Int × Int × Int × Int → AV := fun r => .tup [.agg [.int .i64 r.1, .int .i64 r.2.1, .int .i64 r.2.2.1], .int .i64 r.2.2.2]
noncomputable def r27 (app : App) (a0 : Sl) (a1 : Sl) (H : Hp) : Option ((Int × Int × Int × Int) × Hp) :=
  lt (H.push (.cells [.int .i64 0, .int .i64 0, .int .i64 0] false)) fun H1 =>
  (r76 app a0 a1 H1).bind fun p2 =>
  if p2.1 = true then
    ((r77 a0 a1 p2.2).bind fun p4 =>
    ((p4.2.push (.cells [.int .i64 0, .int .i64 0, .int .i64 0] false)).sts p4.2.n 0 [.int .i64 p4.1.1, .int .i64 p4.1.2.1, .int .i64 p4.1.2.2.1]).bind fun H5 =>
    if p4.1.2.2.2 = true then
      ((H5.ldI .i64 p4.2.n 0).bind fun x7 =>
      (H5.ldI .i64 p4.2.n (0 + 1)).bind fun x8 =>
      (H5.ldI .i64 p4.2.n (0 + 2)).bind fun x9 =>
      (H5.sts H.n 0 [.int .i64 x7, .int .i64 x8, .int .i64 x9]).bind fun H10 =>
      (H10.ldI .i64 H.n 0).bind fun x11 =>
      (H10.ldI .i64 H.n (0 + 1)).bind fun x12 =>
      (H10.ldI .i64 H.n (0 + 2)).bind fun x13 =>
      some ((x11, x12, x13, 0), H10))
    else
      ((H5.sts H.n 0 [.int .i64 0, .int .i64 0, .int .i64 0]).bind fun H14 =>
      (H14.ldI .i64 H.n 0).bind fun x15 =>
      (H14.ldI .i64 H.n (0 + 1)).bind fun x16 =>
      (H14.ldI .i64 H.n (0 + 2)).bind fun x17 =>
      some ((x15, x16, x17, 4), H14)))
  else
    ((p2.2.sts H.n 0 [.int .i64 0, .int .i64 0, .int .i64 0]).bind fun H18 =>
    (H18.ldI .i64 H.n 0).bind fun x19 =>
    (H18.ldI .i64 H.n (0 + 1)).bind fun x20 =>
    (H18.ldI .i64 H.n (0 + 2)).bind fun x21 =>
    some ((x19, x20, x21, 2), H18))
/- 78 slices.Clone[[]congou/api.Frac,congou/api.Frac] -/
def ret78 : Sl → AV := fun r => .sl r
noncomputable def r78 (a0 : Sl) (H : Hp) : Option (Sl × Hp) :=
  if a0.nil = true then
    (some (⟨true, 0, 0, 0, 0, 0⟩, H))
  else
    (((H.push (.cells [] false)).lds a0.b a0.o (a0.len * 2)).bind fun x2 =>
    ck (x2.all AV.one = true) (
    ((H.push (.cells [] false)).app 2 ⟨false, H.n, 0, 0, 0, 0⟩ x2 a0.len).bind fun x4 =>
    some (x4.1, x4.2)))
/- 28 congou/congoulaw02.fracs -/
def ret28 : Sl → AV := fun r => .sl r
noncomputable def r28 (a0 : Sl) (H : Hp) : Option (Sl × Hp) :=
  ck (((0 : Int) ≤ 0 ∧ 0 ≤ (if 9 < (a0.len : Int) then 9 else (a0.len : Int)) ∧ (if 9 < (a0.len : Int) then 9 else (a0.len : Int)) ≤ (a0.cap : Int)) ∧ (a0.opn = 0 ∨ a0.opn = 2)) (
  (r78 (a0.cut 2 (0 : Int).toNat ((if 9 < (a0.len : Int) then 9 else (a0.len : Int)) : Int).toNat) H).bind fun p2 =>
  some (p2.1, p2.2))
/- 29 congou/cuts.CheckCut -/
def ret29 : Bool × Int → AV := fun r => .tup [.bool r.1, .int .i64 r.2]
noncomputable def r29 (app : App) (a0 : Sl) (a1 : Sl) (a2_0 : Int) (a2_1 : Int) (a2_2 : Int) (H : Hp) : Option ((Bool × Int) × Hp) :=
  lt (H.push (.cells [.int .i64 a2_0, .int .i64 a2_1, .int .i64 a2_2] false)) fun H1 =>
  (r76 app a0 a1 H1).bind fun p2 =>
  if p2.1 = true then
    ((r77 a0 a1 p2.2).bind fun p4 =>
    ((p4.2.push (.cells [.int .i64 0, .int .i64 0, .int .i64 0] false)).sts p4.2.n 0 [.int .i64 p4.1.1, .int .i64 p4.1.2.1, .int .i64 p4.1.2.2.1]).bind fun H5 =>
    if p4.1.2.2.2 = true then
      ((H5.ldI .i64 p4.2.n (0 + 0)).bind fun x7 =>
      (H5.ldI .i64 H.n (0 + 0)).bind fun x8 =>
      if x7 = x8 then
        ((H5.ldI .i64 p4.2.n (0 + 1)).bind fun x10 =>
        (H5.ldI .i64 H.n (0 + 1)).bind fun x11 =>
        if x10 = x11 then
          ((H5.ldI .i64 p4.2.n (0 + 2)).bind fun x13 =>
          (H5.ldI .i64 H.n (0 + 2)).bind fun x14 =>
          some (((decide (x13 ≤ x14)), 0), H5))
        else
          (some ((false, 0), H5)))
      else
        (some ((false, 0), H5)))
    else
      (some ((false, 0), H5)))
  else
    (some ((false, 2), p2.2))
end Go.Lt.P2
