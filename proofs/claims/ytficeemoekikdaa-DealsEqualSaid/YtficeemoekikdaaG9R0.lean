/- PRINTED BY A PROGRAM OF OURS: what each function that 'DealsEqual' reaches computes on the abstract heap, and that the translated code does just that. Nothing is asked of the input. -/
import Derived.Test.YtficeemoekikdaaG9T
set_option linter.unusedVariables false
set_option linter.unusedSimpArgs false
set_option maxRecDepth 100000
set_option maxHeartbeats 4000000
namespace Go.Lt.P5
open Go Go.Lt Go.Proofs
/- 53 congou/deals.gcd -/
def ret53 : Int → AV := fun r => .int .i64 r
noncomputable def r53_l0 : Nat → Int → Int → Hp → Option (Int × Hp)
  | 0, _, _, _ => none
  | k_ + 1, v1, v2, H => if v2 ≠ 0 then
    (ck (v2 ≠ 0) (
    r53_l0 k_ v2 (Int.tmod v1 v2) H))
  else
    (some ((if v1 < (w64 (0 - v1)) then (w64 (0 - v1)) else v1), H))
noncomputable def r53 (a0 : Int) (a1 : Int) (H : Hp) : Option (Int × Hp) :=
  r53_l0 FUEL a0 a1 H
/- 48 congou/deals.frac -/
def ret48 : Int × Int → AV := fun r => .agg [.int .i64 r.1, .int .i64 r.2]
noncomputable def r48_j0 (v1 : Int) (v2 : Int) (v3 : Nat) (H : Hp) : Option ((Int × Int) × Hp) :=
  (r53 v1 v2 H0).bind fun p1 =>
  ck (p1.1 ≠ 0) (
  ck (p1.1 ≠ 0) (
  (H.sts v3 0 [.int .i64 (w64 (Int.tdiv v1 p1.1)), .int .i64 (w64 (Int.tdiv v2 p1.1))]).bind fun H4 =>
  (H4.ldI .i64 v3 0).bind fun x5 =>
  (H4.ldI .i64 v3 (0 + 1)).bind fun x6 =>
  some ((x5, x6), H4)))
noncomputable def r48 (a0 : Int) (a1 : Int) (H : Hp) : Option ((Int × Int) × Hp) :=
  lt (H.push (.cells [.int .i64 0, .int .i64 0] false)) fun H1 =>
  if a1 < 0 then
    (r48_j0 (w64 (0 - a0)) (w64 (0 - a1)) H.n H1)
  else
    (r48_j0 a0 a1 H.n H1)
/- 70 congou/deals.isNumber -/
def ret70 : Bool → AV := fun r => .bool r
noncomputable def r70 (a0 : Int) (H : Hp) : Option (Bool × Hp) :=
  if 0 ≤ a0 then
    (some ((decide (a0 ≤ 30)), H))
  else
    (some (false, H))
/- 81 slices.Index[congou/deals.offers,[2]int] -/
def ret81 : Int → AV := fun r => .int .i64 r
noncomputable def r81_l0 : Nat → Sl → Nat → Int → Int → Hp → Option (Int × Hp)
  | 0, _, _, _, _, _ => none
  | k_ + 1, v1, v2, v3, v4, H => if v4 < v3 then
    ((H.ldI .i64 v2 0).bind fun x2 =>
    (H.ldI .i64 v2 (0 + 1)).bind fun x3 =>
    ck ((0 : Int) ≤ v4 ∧ v4 < (v1.len : Int)) (
    (H.ldI .i64 v1.b (v1.o + (v4 : Int).toNat * 2)).bind fun x5 =>
    (H.ldI .i64 v1.b ((v1.o + (v4 : Int).toNat * 2) + 1)).bind fun x6 =>
    if (AV.keqs [.int .i64 x2, .int .i64 x3] [.int .i64 x5, .int .i64 x6]) = true then
      (some (v4, H))
    else
      (r81_l0 k_ v1 v2 v3 (w64 (v4 + 1)) H)))
  else
    (some ((-1), H))
noncomputable def r81 (a0 : Sl) (a1_0 : Int) (a1_1 : Int) (H : Hp) : Option (Int × Hp) :=
  lt (H.push (.cells [.int .i64 a1_0, .int .i64 a1_1] false)) fun H1 =>
  r81_l0 FUEL a0 H.n (a0.len : Int) 0 H1
/- 71 slices.Contains[congou/deals.offers,[2]int] -/
def ret71 : Bool → AV := fun r => .bool r
noncomputable def r71 (a0 : Sl) (a1_0 : Int) (a1_1 : Int) (H : Hp) : Option (Bool × Hp) :=
  lt (H.push (.cells [.int .i64 a1_0, .int .i64 a1_1] false)) fun H1 =>
  (H1.ldI .i64 H.n 0).bind fun x2 =>
  (H1.ldI .i64 H.n (0 + 1)).bind fun x3 =>
  (r81 a0 x2 x3 H1).bind fun p4 =>
  some ((decide (0 ≤ p4.1)), p4.2)
/- 52 (congou/deals.offers).valid -/
def ret52 : Bool → AV := fun r => .bool r
noncomputable def r52_j2 (kt1 : Sl → Sl → Int → Int → Hp → Option (Bool × Hp)) (v1 : Sl) (v2 : Sl) (v3 : Int) (v4 : Int) (v5 : Bool) (H : Hp) : Option (Bool × Hp) :=
  if v5 = true then
    (some (false, H))
  else
    (kt1 v1 v2 v3 (w64 (v4 + 1)) H)
noncomputable def r52_l1 : Nat → Sl → Sl → Int → Int → Hp → Option (Bool × Hp)
  | 0, _, _, _, _, _ => none
  | k_ + 1, v1, v2, v3, v4, H => if v4 < v3 then
    (ck ((0 : Int) ≤ v4 ∧ v4 < (v2.len : Int)) (
    (H.ldI .i64 v2.b (v2.o + (v4 : Int).toNat * 2)).bind fun x3 =>
    (H.ldI .i64 v2.b ((v2.o + (v4 : Int).toNat * 2) + 1)).bind fun x4 =>
    ((H.push (.cells [.int .i64 0, .int .i64 0] false)).sts H.n 0 [.int .i64 x3, .int .i64 x4]).bind fun H5 =>
    (H5.ldI .i64 H.n (0 + (0 : Int).toNat * 1)).bind fun x6 =>
    (r70 x6 H0).bind fun p7 =>
    if p7.1 = true then
      ((H5.ldI .i64 H.n (0 + (1 : Int).toNat * 1)).bind fun x9 =>
      (r70 x9 H0).bind fun p10 =>
      if p10.1 = true then
        (ck (((0 : Int) ≤ 0 ∧ 0 ≤ v4 ∧ v4 ≤ (v1.cap : Int)) ∧ (v1.opn = 0 ∨ v1.opn = 2)) (
        (H5.ldI .i64 H.n 0).bind fun x13 =>
        (H5.ldI .i64 H.n (0 + 1)).bind fun x14 =>
        (r71 (v1.cut 2 (0 : Int).toNat (v4 : Int).toNat) x13 x14 H5).bind fun p15 =>
        r52_j2 (fun v1_ v2_ v3_ v4_ H_ => r52_l1 k_ v1_ v2_ v3_ v4_ H_) v1 v2 v3 v4 p15.1 p15.2))
      else
        (r52_j2 (fun v1_ v2_ v3_ v4_ H_ => r52_l1 k_ v1_ v2_ v3_ v4_ H_) v1 v2 v3 v4 true H5))
    else
      (r52_j2 (fun v1_ v2_ v3_ v4_ H_ => r52_l1 k_ v1_ v2_ v3_ v4_ H_) v1 v2 v3 v4 true H5)))
  else
    (some (true, H))
noncomputable def r52_j0 (v1 : Sl) (v2 : Bool) (H : Hp) : Option (Bool × Hp) :=
  if v2 = true then
    (some (false, H))
  else
    (r52_l1 FUEL v1 v1 (v1.len : Int) 0 H)
noncomputable def r52 (a0 : Sl) (H : Hp) : Option (Bool × Hp) :=
  if (a0.len : Int) < 1 then
    (r52_j0 a0 true H)
  else
    (r52_j0 a0 (decide (8 < (a0.len : Int))) H)
/- 86 slices.AppendSeq[[][2]int,[2]int] -/
def ret86 : Sl → AV := fun r => .sl r
noncomputable def r86 (app : App) (a0 : Sl) (a1 : AV) (H : Hp) : Option (Sl × Hp) :=
  lt (H.push (.cells [.sl a0] false)) fun H1 =>
  (callr app a1 (H1.n + 1) ((H1.push .dfr).push (.loop .ready none 0 13 [(2, .ptr H.n 0)]))).bind fun p2 =>
  (p2.2.lend (H1.n + 1)).bind fun q3 =>
  if jmp q3.1 = some 0 then
    ((q3.2.ldSl H.n 0).bind fun x5 =>
    ck (dfrB [H1.n] q3.2 = true) (
    some (x5, kill [H1.n] q3.2)))
  else
    (none)
noncomputable def r86q0 (app : App) (l_ : Nat) (v1 : Nat) (y0_0 : Int) (y0_1 : Int) (H : Hp) : Option ((Option Code) × Hp) :=
  ((H.push (.cells [.int .i64 0, .int .i64 0] false)).sts H.n 0 [.int .i64 y0_0, .int .i64 y0_1]).bind fun H1 =>
  (H1.lbegin l_).bind fun H2 =>
  (H2.ldSl v1 0).bind fun x3 =>
  (H2.ldI .i64 H.n 0).bind fun x4 =>
  (H2.ldI .i64 H.n (0 + 1)).bind fun x5 =>
  (H2.apN 2 x3 [.int .i64 x4, .int .i64 x5] 1).bind fun x6 =>
  (x6.2.st v1 0 (.sl x6.1)).bind fun H7 =>
  some (none, H7)
/- 82 slices.Collect[[2]int] -/
def ret82 : Sl → AV := fun r => .sl r
noncomputable def r82 (app : App) (a0 : AV) (H : Hp) : Option (Sl × Hp) :=
  (r86 app ⟨true, 0, 0, 0, 0, 0⟩ a0 H).bind fun p1 =>
  some (p1.1, p1.2)
/- 89 slices.insertionSortCmpFunc[[2]int] -/
def ret89 : Unit → AV := fun _ => .tup []
noncomputable def r89_j2 (app : App) (kt0 : Sl → Int → Int → AV → Int → Hp → Option (Unit × Hp)) (kt1 : Sl → Int → Int → AV → Int → Int → Hp → Option (Unit × Hp)) (v1 : Sl) (v2 : Int) (v3 : Int) (v4 : AV) (v5 : Int) (v6 : Int) (v7 : Bool) (H : Hp) : Option (Unit × Hp) :=
  if v7 = true then
    (ck ((0 : Int) ≤ (w64 (v6 - 1)) ∧ (w64 (v6 - 1)) < (v1.len : Int)) (
    (H.ldI .i64 v1.b (v1.o + (w64 (v6 - 1) : Int).toNat * 2)).bind fun x3 =>
    (H.ldI .i64 v1.b ((v1.o + (w64 (v6 - 1) : Int).toNat * 2) + 1)).bind fun x4 =>
    ck ((0 : Int) ≤ v6 ∧ v6 < (v1.len : Int)) (
    (H.ldI .i64 v1.b (v1.o + (v6 : Int).toNat * 2)).bind fun x6 =>
    (H.ldI .i64 v1.b ((v1.o + (v6 : Int).toNat * 2) + 1)).bind fun x7 =>
    ck ((0 : Int) ≤ v6 ∧ v6 < (v1.len : Int)) (
    (H.sts v1.b (v1.o + (v6 : Int).toNat * 2) [.int .i64 x3, .int .i64 x4]).bind fun H9 =>
    ck ((0 : Int) ≤ (w64 (v6 - 1)) ∧ (w64 (v6 - 1)) < (v1.len : Int)) (
    (H9.sts v1.b (v1.o + (w64 (v6 - 1) : Int).toNat * 2) [.int .i64 x6, .int .i64 x7]).bind fun H11 =>
    kt1 v1 v2 v3 v4 v5 (w64 (v6 - 1)) H11)))))
  else
    (kt0 v1 v2 v3 v4 (w64 (v5 + 1)) H)
noncomputable def r89_l1 (app : App) (kt0 : Sl → Int → Int → AV → Int → Hp → Option (Unit × Hp)) : Nat → Sl → Int → Int → AV → Int → Int → Hp → Option (Unit × Hp)
  | 0, _, _, _, _, _, _, _ => none
  | k_ + 1, v1, v2, v3, v4, v5, v6, H => if v2 < v6 then
    (ck ((0 : Int) ≤ v6 ∧ v6 < (v1.len : Int)) (
    (H.ldI .i64 v1.b (v1.o + (v6 : Int).toNat * 2)).bind fun x3 =>
    (H.ldI .i64 v1.b ((v1.o + (v6 : Int).toNat * 2) + 1)).bind fun x4 =>
    ck ((0 : Int) ≤ (w64 (v6 - 1)) ∧ (w64 (v6 - 1)) < (v1.len : Int)) (
    (H.ldI .i64 v1.b (v1.o + (w64 (v6 - 1) : Int).toNat * 2)).bind fun x6 =>
    (H.ldI .i64 v1.b ((v1.o + (w64 (v6 - 1) : Int).toNat * 2) + 1)).bind fun x7 =>
    (callv app v4 [.agg [.int .i64 x3, .int .i64 x4], .agg [.int .i64 x6, .int .i64 x7]] H).bind fun p8 =>
    (p8.1.asI .i64).bind fun x9 =>
    r89_j2 app kt0 (fun v1_ v2_ v3_ v4_ v5_ v6_ H_ => r89_l1 app kt0 k_ v1_ v2_ v3_ v4_ v5_ v6_ H_) v1 v2 v3 v4 v5 v6 (decide (x9 < 0)) p8.2)))
  else
    (r89_j2 app kt0 (fun v1_ v2_ v3_ v4_ v5_ v6_ H_ => r89_l1 app kt0 k_ v1_ v2_ v3_ v4_ v5_ v6_ H_) v1 v2 v3 v4 v5 v6 false H)
noncomputable def r89_l0 (app : App) : Nat → Sl → Int → Int → AV → Int → Hp → Option (Unit × Hp)
  | 0, _, _, _, _, _, _ => none
  | k_ + 1, v1, v2, v3, v4, v5, H => if v5 < v3 then
    (r89_l1 app (fun v1_ v2_ v3_ v4_ v5_ H_ => r89_l0 app k_ v1_ v2_ v3_ v4_ v5_ H_) FUEL v1 v2 v3 v4 v5 v5 H)
  else
    (some ((), H))
noncomputable def r89 (app : App) (a0 : Sl) (a1 : Int) (a2 : Int) (a3 : AV) (H : Hp) : Option (Unit × Hp) :=
  r89_l0 app FUEL a0 a1 a2 a3 (w64 (a1 + 1)) H
/- 99 slices.siftDownCmpFunc[[2]int] -/
def ret99 : Unit → AV := fun _ => .tup []
noncomputable def r99_j1 (app : App) (kt0 : Sl → Int → Int → AV → Int → Hp → Option (Unit × Hp)) (v1 : Sl) (v2 : Int) (v3 : Int) (v4 : AV) (v5 : Int) (v6 : Int) (H : Hp) : Option (Unit × Hp) :=
  ck ((0 : Int) ≤ (w64 (v3 + v5)) ∧ (w64 (v3 + v5)) < (v1.len : Int)) (
  (H.ldI .i64 v1.b (v1.o + (w64 (v3 + v5) : Int).toNat * 2)).bind fun x2 =>
  (H.ldI .i64 v1.b ((v1.o + (w64 (v3 + v5) : Int).toNat * 2) + 1)).bind fun x3 =>
  ck ((0 : Int) ≤ (w64 (v3 + v6)) ∧ (w64 (v3 + v6)) < (v1.len : Int)) (
  (H.ldI .i64 v1.b (v1.o + (w64 (v3 + v6) : Int).toNat * 2)).bind fun x5 =>
  (H.ldI .i64 v1.b ((v1.o + (w64 (v3 + v6) : Int).toNat * 2) + 1)).bind fun x6 =>
  (callv app v4 [.agg [.int .i64 x2, .int .i64 x3], .agg [.int .i64 x5, .int .i64 x6]] H).bind fun p7 =>
  (p7.1.asI .i64).bind fun x8 =>
  if x8 < 0 then
    (ck ((0 : Int) ≤ (w64 (v3 + v6)) ∧ (w64 (v3 + v6)) < (v1.len : Int)) (
    (p7.2.ldI .i64 v1.b (v1.o + (w64 (v3 + v6) : Int).toNat * 2)).bind fun x11 =>
    (p7.2.ldI .i64 v1.b ((v1.o + (w64 (v3 + v6) : Int).toNat * 2) + 1)).bind fun x12 =>
    ck ((0 : Int) ≤ (w64 (v3 + v5)) ∧ (w64 (v3 + v5)) < (v1.len : Int)) (
    (p7.2.ldI .i64 v1.b (v1.o + (w64 (v3 + v5) : Int).toNat * 2)).bind fun x14 =>
    (p7.2.ldI .i64 v1.b ((v1.o + (w64 (v3 + v5) : Int).toNat * 2) + 1)).bind fun x15 =>
    ck ((0 : Int) ≤ (w64 (v3 + v5)) ∧ (w64 (v3 + v5)) < (v1.len : Int)) (
    (p7.2.sts v1.b (v1.o + (w64 (v3 + v5) : Int).toNat * 2) [.int .i64 x11, .int .i64 x12]).bind fun H17 =>
    ck ((0 : Int) ≤ (w64 (v3 + v6)) ∧ (w64 (v3 + v6)) < (v1.len : Int)) (
    (H17.sts v1.b (v1.o + (w64 (v3 + v6) : Int).toNat * 2) [.int .i64 x14, .int .i64 x15]).bind fun H19 =>
    kt0 v1 v2 v3 v4 v6 H19)))))
  else
    (some ((), p7.2))))
noncomputable def r99_j2 (app : App) (kt0 : Sl → Int → Int → AV → Int → Hp → Option (Unit × Hp)) (v1 : Sl) (v2 : Int) (v3 : Int) (v4 : AV) (v5 : Int) (v6 : Int) (v7 : Bool) (H : Hp) : Option (Unit × Hp) :=
  if v7 = true then
    (r99_j1 app kt0 v1 v2 v3 v4 v5 (w64 (v6 + 1)) H)
  else
    (r99_j1 app kt0 v1 v2 v3 v4 v5 v6 H)
noncomputable def r99_l0 (app : App) : Nat → Sl → Int → Int → AV → Int → Hp → Option (Unit × Hp)
  | 0, _, _, _, _, _, _ => none
  | k_ + 1, v1, v2, v3, v4, v5, H => if v2 ≤ (w64 ((w64 (2 * v5)) + 1)) then
    (some ((), H))
  else
    (if (w64 ((w64 ((w64 (2 * v5)) + 1)) + 1)) < v2 then
      (ck ((0 : Int) ≤ (w64 (v3 + (w64 ((w64 (2 * v5)) + 1)))) ∧ (w64 (v3 + (w64 ((w64 (2 * v5)) + 1)))) < (v1.len : Int)) (
      (H.ldI .i64 v1.b (v1.o + (w64 (v3 + (w64 ((w64 (2 * v5)) + 1))) : Int).toNat * 2)).bind fun x4 =>
      (H.ldI .i64 v1.b ((v1.o + (w64 (v3 + (w64 ((w64 (2 * v5)) + 1))) : Int).toNat * 2) + 1)).bind fun x5 =>
      ck ((0 : Int) ≤ (w64 ((w64 (v3 + (w64 ((w64 (2 * v5)) + 1)))) + 1)) ∧ (w64 ((w64 (v3 + (w64 ((w64 (2 * v5)) + 1)))) + 1)) < (v1.len : Int)) (
      (H.ldI .i64 v1.b (v1.o + (w64 ((w64 (v3 + (w64 ((w64 (2 * v5)) + 1)))) + 1) : Int).toNat * 2)).bind fun x7 =>
      (H.ldI .i64 v1.b ((v1.o + (w64 ((w64 (v3 + (w64 ((w64 (2 * v5)) + 1)))) + 1) : Int).toNat * 2) + 1)).bind fun x8 =>
      (callv app v4 [.agg [.int .i64 x4, .int .i64 x5], .agg [.int .i64 x7, .int .i64 x8]] H).bind fun p9 =>
      (p9.1.asI .i64).bind fun x10 =>
      r99_j2 app (fun v1_ v2_ v3_ v4_ v5_ H_ => r99_l0 app k_ v1_ v2_ v3_ v4_ v5_ H_) v1 v2 v3 v4 v5 (w64 ((w64 (2 * v5)) + 1)) (decide (x10 < 0)) p9.2)))
    else
      (r99_j2 app (fun v1_ v2_ v3_ v4_ v5_ H_ => r99_l0 app k_ v1_ v2_ v3_ v4_ v5_ H_) v1 v2 v3 v4 v5 (w64 ((w64 (2 * v5)) + 1)) false H))
noncomputable def r99 (app : App) (a0 : Sl) (a1 : Int) (a2 : Int) (a3 : Int) (a4 : AV) (H : Hp) : Option (Unit × Hp) :=
  r99_l0 app FUEL a0 a2 a3 a4 a1 H
/- 90 slices.heapSortCmpFunc[[2]int] -/
def ret90 : Unit → AV := fun _ => .tup []
noncomputable def r90_l1 (app : App) : Nat → Sl → AV → Int → Int → Int → Hp → Option (Unit × Hp)
  | 0, _, _, _, _, _, _ => none
  | k_ + 1, v1, v2, v3, v4, v5, H => if 0 ≤ v5 then
    (ck ((0 : Int) ≤ (w64 (v3 + v5)) ∧ (w64 (v3 + v5)) < (v1.len : Int)) (
    (H.ldI .i64 v1.b (v1.o + (w64 (v3 + v5) : Int).toNat * 2)).bind fun x3 =>
    (H.ldI .i64 v1.b ((v1.o + (w64 (v3 + v5) : Int).toNat * 2) + 1)).bind fun x4 =>
    ck ((0 : Int) ≤ v3 ∧ v3 < (v1.len : Int)) (
    (H.ldI .i64 v1.b (v1.o + (v3 : Int).toNat * 2)).bind fun x6 =>
    (H.ldI .i64 v1.b ((v1.o + (v3 : Int).toNat * 2) + 1)).bind fun x7 =>
    ck ((0 : Int) ≤ v3 ∧ v3 < (v1.len : Int)) (
    (H.sts v1.b (v1.o + (v3 : Int).toNat * 2) [.int .i64 x3, .int .i64 x4]).bind fun H9 =>
    ck ((0 : Int) ≤ (w64 (v3 + v5)) ∧ (w64 (v3 + v5)) < (v1.len : Int)) (
    (H9.sts v1.b (v1.o + (w64 (v3 + v5) : Int).toNat * 2) [.int .i64 x6, .int .i64 x7]).bind fun H11 =>
    (r99 app v1 v4 v5 v3 v2 H11).bind fun p12 =>
    r90_l1 app k_ v1 v2 v3 v4 (w64 (v5 - 1)) p12.2)))))
  else
    (some ((), H))
noncomputable def r90_l0 (app : App) : Nat → Sl → AV → Int → Int → Int → Int → Hp → Option (Unit × Hp)
  | 0, _, _, _, _, _, _, _ => none
  | k_ + 1, v1, v2, v3, v4, v5, v6, H => if 0 ≤ v6 then
    ((r99 app v1 v6 v5 v3 v2 H).bind fun p2 =>
    r90_l0 app k_ v1 v2 v3 v4 v5 (w64 (v6 - 1)) p2.2)
  else
    (r90_l1 app FUEL v1 v2 v3 v4 (w64 (v5 - 1)) H)
noncomputable def r90 (app : App) (a0 : Sl) (a1 : Int) (a2 : Int) (a3 : AV) (H : Hp) : Option (Unit × Hp) :=
  r90_l0 app FUEL a0 a3 a1 0 (w64 (a2 - a1)) (w64 (Int.tdiv (w64 ((w64 (a2 - a1)) - 1)) 2)) H
/- 97 math/bits.Len32 -/
def ret97 : Int → AV := fun r => .int .i64 r
noncomputable def r97_j0 (v1 : Int) (v2 : Int) (H : Hp) : Option (Int × Hp) :=
  ck ((0 : Int) ≤ (IntKind.wrap .u8 (v1)) ∧ (IntKind.wrap .u8 (v1)) < ((strC Try.f97 [1, 1, 1, 0] 3 0).size : Int)) (
  some (w64 (v2 + (w64 (bt (strC Try.f97 [1, 1, 1, 0] 3 0) (IntKind.wrap .u8 (v1))))), H))
noncomputable def r97_j1 (v1 : Int) (v2 : Int) (H : Hp) : Option (Int × Hp) :=
  if 256 ≤ v1 then
    (r97_j0 (shrOf .u32 v1 8) (w64 (v2 + 8)) H)
  else
    (r97_j0 v1 v2 H)
noncomputable def r97 (a0 : Int) (H : Hp) : Option (Int × Hp) :=
  if 65536 ≤ a0 then
    (r97_j1 (shrOf .u32 a0 16) 16 H)
  else
    (r97_j1 a0 0 H)
/- 98 math/bits.Len64 -/
def ret98 : Int → AV := fun r => .int .i64 r
noncomputable def r98_j0 (v1 : Int) (v2 : Int) (H : Hp) : Option (Int × Hp) :=
  ck ((0 : Int) ≤ (IntKind.wrap .u8 (v1)) ∧ (IntKind.wrap .u8 (v1)) < ((strC Try.f98 [1, 1, 1, 1, 0] 3 0).size : Int)) (
  some (w64 (v2 + (w64 (bt (strC Try.f98 [1, 1, 1, 1, 0] 3 0) (IntKind.wrap .u8 (v1))))), H))
noncomputable def r98_j1 (v1 : Int) (v2 : Int) (H : Hp) : Option (Int × Hp) :=
  if 256 ≤ v1 then
    (r98_j0 (shrOf .u64 v1 8) (w64 (v2 + 8)) H)
  else
    (r98_j0 v1 v2 H)
noncomputable def r98_j2 (v1 : Int) (v2 : Int) (H : Hp) : Option (Int × Hp) :=
  if 65536 ≤ v1 then
    (r98_j1 (shrOf .u64 v1 16) (w64 (v2 + 16)) H)
  else
    (r98_j1 v1 v2 H)
noncomputable def r98 (a0 : Int) (H : Hp) : Option (Int × Hp) :=
  if 4294967296 ≤ a0 then
    (r98_j2 (shrOf .u64 a0 32) 32 H)
  else
    (r98_j2 a0 0 H)
/- 88 math/bits.Len -/
def ret88 : Int → AV := fun r => .int .i64 r
noncomputable def r88 (a0 : Int) (H : Hp) : Option (Int × Hp) :=
  (r98 a0 H).bind fun p1 =>
  some (p1.1, p1.2)
/- 100 slices.nextPowerOfTwo -/
def ret100 : Int → AV := fun r => .int .u64 r
noncomputable def r100 (a0 : Int) (H : Hp) : Option (Int × Hp) :=
  (r88 (IntKind.wrap .u64 (a0)) H).bind fun p1 =>
  ck (¬ p1.1 < 0) (
  some (shlOf .u64 1 p1.1, p1.2))
/- 101 (*slices.xorshift).Next -/
def ret101 : Int → AV := fun r => .int .u64 r
noncomputable def r101 (a0b : Nat) (a0o : Nat) (H : Hp) : Option (Int × Hp) :=
  (H.ldI .u64 a0b a0o).bind fun x1 =>
  (H.ldI .u64 a0b a0o).bind fun x2 =>
  (H.st a0b a0o (.int .u64 (bitsOf .xor .u64 x1 (shlOf .u64 x2 13)))).bind fun H3 =>
  (H3.ldI .u64 a0b a0o).bind fun x4 =>
  (H3.ldI .u64 a0b a0o).bind fun x5 =>
  (H3.st a0b a0o (.int .u64 (bitsOf .xor .u64 x4 (shrOf .u64 x5 7)))).bind fun H6 =>
  (H6.ldI .u64 a0b a0o).bind fun x7 =>
  (H6.ldI .u64 a0b a0o).bind fun x8 =>
  (H6.st a0b a0o (.int .u64 (bitsOf .xor .u64 x7 (shlOf .u64 x8 17)))).bind fun H9 =>
  (H9.ldI .u64 a0b a0o).bind fun x10 =>
  some (x10, H9)
/- 91 slices.breakPatternsCmpFunc[[2]int] -/
def ret91 : Unit → AV := fun _ => .tup []
noncomputable def r91_j1 (kt0 : Sl → Int → Int → Nat → Int → Int → Hp → Option (Unit × Hp)) (v1 : Sl) (v2 : Int) (v3 : Int) (v4 : Nat) (v5 : Int) (v6 : Int) (v7 : Int) (H : Hp) : Option (Unit × Hp) :=
  ck ((0 : Int) ≤ (w64 (v2 + v7)) ∧ (w64 (v2 + v7)) < (v1.len : Int)) (
  (H.ldI .i64 v1.b (v1.o + (w64 (v2 + v7) : Int).toNat * 2)).bind fun x2 =>
  (H.ldI .i64 v1.b ((v1.o + (w64 (v2 + v7) : Int).toNat * 2) + 1)).bind fun x3 =>
  ck ((0 : Int) ≤ v6 ∧ v6 < (v1.len : Int)) (
  (H.ldI .i64 v1.b (v1.o + (v6 : Int).toNat * 2)).bind fun x5 =>
  (H.ldI .i64 v1.b ((v1.o + (v6 : Int).toNat * 2) + 1)).bind fun x6 =>
  ck ((0 : Int) ≤ v6 ∧ v6 < (v1.len : Int)) (
  (H.sts v1.b (v1.o + (v6 : Int).toNat * 2) [.int .i64 x2, .int .i64 x3]).bind fun H8 =>
  ck ((0 : Int) ≤ (w64 (v2 + v7)) ∧ (w64 (v2 + v7)) < (v1.len : Int)) (
  (H8.sts v1.b (v1.o + (w64 (v2 + v7) : Int).toNat * 2) [.int .i64 x5, .int .i64 x6]).bind fun H10 =>
  kt0 v1 v2 v3 v4 v5 (w64 (v6 + 1)) H10))))
noncomputable def r91_l0 : Nat → Sl → Int → Int → Nat → Int → Int → Hp → Option (Unit × Hp)
  | 0, _, _, _, _, _, _, _ => none
  | k_ + 1, v1, v2, v3, v4, v5, v6, H => if v6 ≤ (w64 ((w64 (v2 + (w64 ((w64 (Int.tdiv v3 4)) * 2)))) + 1)) then
    ((r101 v4 0 H).bind fun p2 =>
    if v3 ≤ (w64 (bitsOf .and .u64 p2.1 (IntKind.wrap .u64 (v5 - 1)))) then
      (r91_j1 (fun v1_ v2_ v3_ v4_ v5_ v6_ H_ => r91_l0 k_ v1_ v2_ v3_ v4_ v5_ v6_ H_) v1 v2 v3 v4 v5 v6 (w64 ((w64 (bitsOf .and .u64 p2.1 (IntKind.wrap .u64 (v5 - 1)))) - v3)) p2.2)
    else
      (r91_j1 (fun v1_ v2_ v3_ v4_ v5_ v6_ H_ => r91_l0 k_ v1_ v2_ v3_ v4_ v5_ v6_ H_) v1 v2 v3 v4 v5 v6 (w64 (bitsOf .and .u64 p2.1 (IntKind.wrap .u64 (v5 - 1)))) p2.2))
  else
    (some ((), H))
noncomputable def r91 (a0 : Sl) (a1 : Int) (a2 : Int) (a3 : AV) (H : Hp) : Option (Unit × Hp) :=
  if 8 ≤ (w64 (a2 - a1)) then
    (((H.push (.cells [.int .u64 0] false)).st H.n 0 (.int .u64 (IntKind.wrap .u64 (w64 (a2 - a1))))).bind fun H2 =>
    (r100 (w64 (a2 - a1)) H2).bind fun p3 =>
    r91_l0 FUEL a0 a1 (w64 (a2 - a1)) H.n p3.1 (w64 ((w64 (a1 + (w64 ((w64 (Int.tdiv (w64 (a2 - a1)) 4)) * 2)))) - 1)) p3.2)
  else
    (some ((), H))
/- 104 slices.order2CmpFunc[[2]int] -/
def ret104 : Int × Int → AV := fun r => .tup [.int .i64 r.1, .int .i64 r.2]
noncomputable def r104 (app : App) (a0 : Sl) (a1 : Int) (a2 : Int) (a3b : Nat) (a3o : Nat) (a4 : AV) (H : Hp) : Option ((Int × Int) × Hp) :=
  ck ((0 : Int) ≤ a2 ∧ a2 < (a0.len : Int)) (
  (H.ldI .i64 a0.b (a0.o + (a2 : Int).toNat * 2)).bind fun x2 =>
  (H.ldI .i64 a0.b ((a0.o + (a2 : Int).toNat * 2) + 1)).bind fun x3 =>
  ck ((0 : Int) ≤ a1 ∧ a1 < (a0.len : Int)) (
  (H.ldI .i64 a0.b (a0.o + (a1 : Int).toNat * 2)).bind fun x5 =>
  (H.ldI .i64 a0.b ((a0.o + (a1 : Int).toNat * 2) + 1)).bind fun x6 =>
  (callv app a4 [.agg [.int .i64 x2, .int .i64 x3], .agg [.int .i64 x5, .int .i64 x6]] H).bind fun p7 =>
  (p7.1.asI .i64).bind fun x8 =>
  if x8 < 0 then
    ((p7.2.ldI .i64 a3b a3o).bind fun x10 =>
    (p7.2.st a3b a3o (.int .i64 (w64 (x10 + 1)))).bind fun H11 =>
    some ((a2, a1), H11))
  else
    (some ((a1, a2), p7.2))))
/- 103 slices.medianCmpFunc[[2]int] -/
def ret103 : Int → AV := fun r => .int .i64 r
noncomputable def r103 (app : App) (a0 : Sl) (a1 : Int) (a2 : Int) (a3 : Int) (a4b : Nat) (a4o : Nat) (a5 : AV) (H : Hp) : Option (Int × Hp) :=
  (r104 app a0 a1 a2 a4b a4o a5 H).bind fun p1 =>
  (r104 app a0 p1.1.2 a3 a4b a4o a5 p1.2).bind fun p2 =>
  (r104 app a0 p1.1.1 p2.1.1 a4b a4o a5 p2.2).bind fun p3 =>
  some (p3.1.2, p3.2)
/- 102 slices.medianAdjacentCmpFunc[[2]int] -/
def ret102 : Int → AV := fun r => .int .i64 r
noncomputable def r102 (app : App) (a0 : Sl) (a1 : Int) (a2b : Nat) (a2o : Nat) (a3 : AV) (H : Hp) : Option (Int × Hp) :=
  (r103 app a0 (w64 (a1 - 1)) a1 (w64 (a1 + 1)) a2b a2o a3 H).bind fun p1 =>
  some (p1.1, p1.2)
/- 92 slices.choosePivotCmpFunc[[2]int] -/
def ret92 : Int × Int → AV := fun r => .tup [.int .i64 r.1, .int .i64 r.2]
noncomputable def r92_j1 (app : App) (v1 : Nat) (v2 : Int) (H : Hp) : Option ((Int × Int) × Hp) :=
  (H.ldI .i64 v1 0).bind fun x1 =>
  if x1 = 0 then
    (some ((v2, 1), H))
  else
    (if x1 = 12 then
      (some ((v2, 2), H))
    else
      (some ((v2, 0), H)))
noncomputable def r92_j0 (app : App) (v1 : Sl) (v2 : AV) (v3 : Nat) (v4 : Int) (v5 : Int) (v6 : Int) (H : Hp) : Option ((Int × Int) × Hp) :=
  (r103 app v1 v4 v5 v6 v3 0 v2 H).bind fun p1 =>
  r92_j1 app v3 p1.1 p1.2
noncomputable def r92 (app : App) (a0 : Sl) (a1 : Int) (a2 : Int) (a3 : AV) (H : Hp) : Option ((Int × Int) × Hp) :=
  lt (H.push (.cells [.int .i64 0] false)) fun H1 =>
  if 8 ≤ (w64 (a2 - a1)) then
    (if 50 ≤ (w64 (a2 - a1)) then
      ((r102 app a0 (w64 (a1 + (w64 ((w64 (Int.tdiv (w64 (a2 - a1)) 4)) * 1)))) H.n 0 a3 H1).bind fun p4 =>
      (r102 app a0 (w64 (a1 + (w64 ((w64 (Int.tdiv (w64 (a2 - a1)) 4)) * 2)))) H.n 0 a3 p4.2).bind fun p5 =>
      (r102 app a0 (w64 (a1 + (w64 ((w64 (Int.tdiv (w64 (a2 - a1)) 4)) * 3)))) H.n 0 a3 p5.2).bind fun p6 =>
      r92_j0 app a0 a3 H.n p4.1 p5.1 p6.1 p6.2)
    else
      (r92_j0 app a0 a3 H.n (w64 (a1 + (w64 ((w64 (Int.tdiv (w64 (a2 - a1)) 4)) * 1)))) (w64 (a1 + (w64 ((w64 (Int.tdiv (w64 (a2 - a1)) 4)) * 2)))) (w64 (a1 + (w64 ((w64 (Int.tdiv (w64 (a2 - a1)) 4)) * 3)))) H1))
  else
    (r92_j1 app H.n (w64 (a1 + (w64 ((w64 (Int.tdiv (w64 (a2 - a1)) 4)) * 2)))) H1)
/- 93 slices.reverseRangeCmpFunc[[2]int] -/
def ret93 : Unit → AV := fun _ => .tup []
noncomputable def r93_l0 : Nat → Sl → Int → Int → Hp → Option (Unit × Hp)
  | 0, _, _, _, _ => none
  | k_ + 1, v1, v2, v3, H => if v2 < v3 then
    (ck ((0 : Int) ≤ v3 ∧ v3 < (v1.len : Int)) (
    (H.ldI .i64 v1.b (v1.o + (v3 : Int).toNat * 2)).bind fun x3 =>
    (H.ldI .i64 v1.b ((v1.o + (v3 : Int).toNat * 2) + 1)).bind fun x4 =>
    ck ((0 : Int) ≤ v2 ∧ v2 < (v1.len : Int)) (
    (H.ldI .i64 v1.b (v1.o + (v2 : Int).toNat * 2)).bind fun x6 =>
    (H.ldI .i64 v1.b ((v1.o + (v2 : Int).toNat * 2) + 1)).bind fun x7 =>
    ck ((0 : Int) ≤ v2 ∧ v2 < (v1.len : Int)) (
    (H.sts v1.b (v1.o + (v2 : Int).toNat * 2) [.int .i64 x3, .int .i64 x4]).bind fun H9 =>
    ck ((0 : Int) ≤ v3 ∧ v3 < (v1.len : Int)) (
    (H9.sts v1.b (v1.o + (v3 : Int).toNat * 2) [.int .i64 x6, .int .i64 x7]).bind fun H11 =>
    r93_l0 k_ v1 (w64 (v2 + 1)) (w64 (v3 - 1)) H11)))))
  else
    (some ((), H))
noncomputable def r93 (a0 : Sl) (a1 : Int) (a2 : Int) (a3 : AV) (H : Hp) : Option (Unit × Hp) :=
  r93_l0 FUEL a0 a1 (w64 (a2 - 1)) H
/- 94 slices.partialInsertionSortCmpFunc[[2]int] -/
def ret94 : Bool → AV := fun r => .bool r
noncomputable def r94_l3 (app : App) (kt0 : Sl → Int → Int → AV → Int → Int → Hp → Option (Bool × Hp)) : Nat → Sl → Int → Int → AV → Int → Int → Int → Hp → Option (Bool × Hp)
  | 0, _, _, _, _, _, _, _, _ => none
  | k_ + 1, v1, v2, v3, v4, v5, v6, v7, H => if v7 < v3 then
    (ck ((0 : Int) ≤ v7 ∧ v7 < (v1.len : Int)) (
    (H.ldI .i64 v1.b (v1.o + (v7 : Int).toNat * 2)).bind fun x3 =>
    (H.ldI .i64 v1.b ((v1.o + (v7 : Int).toNat * 2) + 1)).bind fun x4 =>
    ck ((0 : Int) ≤ (w64 (v7 - 1)) ∧ (w64 (v7 - 1)) < (v1.len : Int)) (
    (H.ldI .i64 v1.b (v1.o + (w64 (v7 - 1) : Int).toNat * 2)).bind fun x6 =>
    (H.ldI .i64 v1.b ((v1.o + (w64 (v7 - 1) : Int).toNat * 2) + 1)).bind fun x7 =>
    (callv app v4 [.agg [.int .i64 x3, .int .i64 x4], .agg [.int .i64 x6, .int .i64 x7]] H).bind fun p8 =>
    (p8.1.asI .i64).bind fun x9 =>
    if x9 < 0 then
      (ck ((0 : Int) ≤ (w64 (v7 - 1)) ∧ (w64 (v7 - 1)) < (v1.len : Int)) (
      (p8.2.ldI .i64 v1.b (v1.o + (w64 (v7 - 1) : Int).toNat * 2)).bind fun x12 =>
      (p8.2.ldI .i64 v1.b ((v1.o + (w64 (v7 - 1) : Int).toNat * 2) + 1)).bind fun x13 =>
      ck ((0 : Int) ≤ v7 ∧ v7 < (v1.len : Int)) (
      (p8.2.ldI .i64 v1.b (v1.o + (v7 : Int).toNat * 2)).bind fun x15 =>
      (p8.2.ldI .i64 v1.b ((v1.o + (v7 : Int).toNat * 2) + 1)).bind fun x16 =>
      ck ((0 : Int) ≤ v7 ∧ v7 < (v1.len : Int)) (
      (p8.2.sts v1.b (v1.o + (v7 : Int).toNat * 2) [.int .i64 x12, .int .i64 x13]).bind fun H18 =>
      ck ((0 : Int) ≤ (w64 (v7 - 1)) ∧ (w64 (v7 - 1)) < (v1.len : Int)) (
      (H18.sts v1.b (v1.o + (w64 (v7 - 1) : Int).toNat * 2) [.int .i64 x15, .int .i64 x16]).bind fun H20 =>
      r94_l3 app kt0 k_ v1 v2 v3 v4 v5 v6 (w64 (v7 + 1)) H20)))))
    else
      (kt0 v1 v2 v3 v4 v5 (w64 (v6 + 1)) p8.2))))
  else
    (kt0 v1 v2 v3 v4 v5 (w64 (v6 + 1)) H)
noncomputable def r94_j5 (app : App) (kt0 : Sl → Int → Int → AV → Int → Int → Hp → Option (Bool × Hp)) (v1 : Sl) (v2 : Int) (v3 : Int) (v4 : AV) (v5 : Int) (v6 : Int) (H : Hp) : Option (Bool × Hp) :=
  if 2 ≤ (w64 (v3 - v5)) then
    (r94_l3 app kt0 FUEL v1 v2 v3 v4 v5 v6 (w64 (v5 + 1)) H)
  else
    (kt0 v1 v2 v3 v4 v5 (w64 (v6 + 1)) H)
noncomputable def r94_l2 (app : App) (kt0 : Sl → Int → Int → AV → Int → Int → Hp → Option (Bool × Hp)) : Nat → Sl → Int → Int → AV → Int → Int → Int → Hp → Option (Bool × Hp)
  | 0, _, _, _, _, _, _, _, _ => none
  | k_ + 1, v1, v2, v3, v4, v5, v6, v7, H => if 1 ≤ v7 then
    (ck ((0 : Int) ≤ v7 ∧ v7 < (v1.len : Int)) (
    (H.ldI .i64 v1.b (v1.o + (v7 : Int).toNat * 2)).bind fun x3 =>
    (H.ldI .i64 v1.b ((v1.o + (v7 : Int).toNat * 2) + 1)).bind fun x4 =>
    ck ((0 : Int) ≤ (w64 (v7 - 1)) ∧ (w64 (v7 - 1)) < (v1.len : Int)) (
    (H.ldI .i64 v1.b (v1.o + (w64 (v7 - 1) : Int).toNat * 2)).bind fun x6 =>
    (H.ldI .i64 v1.b ((v1.o + (w64 (v7 - 1) : Int).toNat * 2) + 1)).bind fun x7 =>
    (callv app v4 [.agg [.int .i64 x3, .int .i64 x4], .agg [.int .i64 x6, .int .i64 x7]] H).bind fun p8 =>
    (p8.1.asI .i64).bind fun x9 =>
    if x9 < 0 then
      (ck ((0 : Int) ≤ (w64 (v7 - 1)) ∧ (w64 (v7 - 1)) < (v1.len : Int)) (
      (p8.2.ldI .i64 v1.b (v1.o + (w64 (v7 - 1) : Int).toNat * 2)).bind fun x12 =>
      (p8.2.ldI .i64 v1.b ((v1.o + (w64 (v7 - 1) : Int).toNat * 2) + 1)).bind fun x13 =>
      ck ((0 : Int) ≤ v7 ∧ v7 < (v1.len : Int)) (
      (p8.2.ldI .i64 v1.b (v1.o + (v7 : Int).toNat * 2)).bind fun x15 =>
      (p8.2.ldI .i64 v1.b ((v1.o + (v7 : Int).toNat * 2) + 1)).bind fun x16 =>
      ck ((0 : Int) ≤ v7 ∧ v7 < (v1.len : Int)) (
      (p8.2.sts v1.b (v1.o + (v7 : Int).toNat * 2) [.int .i64 x12, .int .i64 x13]).bind fun H18 =>
      ck ((0 : Int) ≤ (w64 (v7 - 1)) ∧ (w64 (v7 - 1)) < (v1.len : Int)) (
      (H18.sts v1.b (v1.o + (w64 (v7 - 1) : Int).toNat * 2) [.int .i64 x15, .int .i64 x16]).bind fun H20 =>
      r94_l2 app kt0 k_ v1 v2 v3 v4 v5 v6 (w64 (v7 - 1)) H20)))))
    else
      (r94_j5 app kt0 v1 v2 v3 v4 v5 v6 p8.2))))
  else
    (r94_j5 app kt0 v1 v2 v3 v4 v5 v6 H)
noncomputable def r94_j4 (app : App) (kt0 : Sl → Int → Int → AV → Int → Int → Hp → Option (Bool × Hp)) (kt1 : Sl → Int → Int → AV → Int → Int → Hp → Option (Bool × Hp)) (v1 : Sl) (v2 : Int) (v3 : Int) (v4 : AV) (v5 : Int) (v6 : Int) (v7 : Bool) (H : Hp) : Option (Bool × Hp) :=
  if v7 = true then
    (kt1 v1 v2 v3 v4 (w64 (v5 + 1)) v6 H)
  else
    (if v5 = v3 then
      (some (true, H))
    else
      (if (w64 (v3 - v2)) < 50 then
        (some (false, H))
      else
        (ck ((0 : Int) ≤ (w64 (v5 - 1)) ∧ (w64 (v5 - 1)) < (v1.len : Int)) (
        (H.ldI .i64 v1.b (v1.o + (w64 (v5 - 1) : Int).toNat * 2)).bind fun x5 =>
        (H.ldI .i64 v1.b ((v1.o + (w64 (v5 - 1) : Int).toNat * 2) + 1)).bind fun x6 =>
        ck ((0 : Int) ≤ v5 ∧ v5 < (v1.len : Int)) (
        (H.ldI .i64 v1.b (v1.o + (v5 : Int).toNat * 2)).bind fun x8 =>
        (H.ldI .i64 v1.b ((v1.o + (v5 : Int).toNat * 2) + 1)).bind fun x9 =>
        ck ((0 : Int) ≤ v5 ∧ v5 < (v1.len : Int)) (
        (H.sts v1.b (v1.o + (v5 : Int).toNat * 2) [.int .i64 x5, .int .i64 x6]).bind fun H11 =>
        ck ((0 : Int) ≤ (w64 (v5 - 1)) ∧ (w64 (v5 - 1)) < (v1.len : Int)) (
        (H11.sts v1.b (v1.o + (w64 (v5 - 1) : Int).toNat * 2) [.int .i64 x8, .int .i64 x9]).bind fun H13 =>
        if 2 ≤ (w64 (v5 - v2)) then
          (r94_l2 app kt0 FUEL v1 v2 v3 v4 v5 v6 (w64 (v5 - 1)) H13)
        else
          (r94_j5 app kt0 v1 v2 v3 v4 v5 v6 H13))))))))
noncomputable def r94_l1 (app : App) (kt0 : Sl → Int → Int → AV → Int → Int → Hp → Option (Bool × Hp)) : Nat → Sl → Int → Int → AV → Int → Int → Hp → Option (Bool × Hp)
  | 0, _, _, _, _, _, _, _ => none
  | k_ + 1, v1, v2, v3, v4, v5, v6, H => if v5 < v3 then
    (ck ((0 : Int) ≤ v5 ∧ v5 < (v1.len : Int)) (
    (H.ldI .i64 v1.b (v1.o + (v5 : Int).toNat * 2)).bind fun x3 =>
    (H.ldI .i64 v1.b ((v1.o + (v5 : Int).toNat * 2) + 1)).bind fun x4 =>
    ck ((0 : Int) ≤ (w64 (v5 - 1)) ∧ (w64 (v5 - 1)) < (v1.len : Int)) (
    (H.ldI .i64 v1.b (v1.o + (w64 (v5 - 1) : Int).toNat * 2)).bind fun x6 =>
    (H.ldI .i64 v1.b ((v1.o + (w64 (v5 - 1) : Int).toNat * 2) + 1)).bind fun x7 =>
    (callv app v4 [.agg [.int .i64 x3, .int .i64 x4], .agg [.int .i64 x6, .int .i64 x7]] H).bind fun p8 =>
    (p8.1.asI .i64).bind fun x9 =>
    r94_j4 app kt0 (fun v1_ v2_ v3_ v4_ v5_ v6_ H_ => r94_l1 app kt0 k_ v1_ v2_ v3_ v4_ v5_ v6_ H_) v1 v2 v3 v4 v5 v6 (!(decide (x9 < 0))) p8.2)))
  else
    (r94_j4 app kt0 (fun v1_ v2_ v3_ v4_ v5_ v6_ H_ => r94_l1 app kt0 k_ v1_ v2_ v3_ v4_ v5_ v6_ H_) v1 v2 v3 v4 v5 v6 false H)
noncomputable def r94_l0 (app : App) : Nat → Sl → Int → Int → AV → Int → Int → Hp → Option (Bool × Hp)
  | 0, _, _, _, _, _, _, _ => none
  | k_ + 1, v1, v2, v3, v4, v5, v6, H => if v6 < 5 then
    (r94_l1 app (fun v1_ v2_ v3_ v4_ v5_ v6_ H_ => r94_l0 app k_ v1_ v2_ v3_ v4_ v5_ v6_ H_) FUEL v1 v2 v3 v4 v5 v6 H)
  else
    (some (false, H))
noncomputable def r94 (app : App) (a0 : Sl) (a1 : Int) (a2 : Int) (a3 : AV) (H : Hp) : Option (Bool × Hp) :=
  r94_l0 app FUEL a0 a1 a2 a3 (w64 (a1 + 1)) 0 H
/- 95 slices.partitionEqualCmpFunc[[2]int] -/
def ret95 : Int → AV := fun r => .int .i64 r
noncomputable def r95_j4 (app : App) (kt0 : Sl → Int → AV → Int → Int → Hp → Option (Int × Hp)) (kt2 : Sl → Int → AV → Int → Int → Hp → Option (Int × Hp)) (v1 : Sl) (v2 : Int) (v3 : AV) (v4 : Int) (v5 : Int) (v6 : Bool) (H : Hp) : Option (Int × Hp) :=
  if v6 = true then
    (kt2 v1 v2 v3 v4 (w64 (v5 - 1)) H)
  else
    (if v5 < v4 then
      (some (v4, H))
    else
      (ck ((0 : Int) ≤ v5 ∧ v5 < (v1.len : Int)) (
      (H.ldI .i64 v1.b (v1.o + (v5 : Int).toNat * 2)).bind fun x4 =>
      (H.ldI .i64 v1.b ((v1.o + (v5 : Int).toNat * 2) + 1)).bind fun x5 =>
      ck ((0 : Int) ≤ v4 ∧ v4 < (v1.len : Int)) (
      (H.ldI .i64 v1.b (v1.o + (v4 : Int).toNat * 2)).bind fun x7 =>
      (H.ldI .i64 v1.b ((v1.o + (v4 : Int).toNat * 2) + 1)).bind fun x8 =>
      ck ((0 : Int) ≤ v4 ∧ v4 < (v1.len : Int)) (
      (H.sts v1.b (v1.o + (v4 : Int).toNat * 2) [.int .i64 x4, .int .i64 x5]).bind fun H10 =>
      ck ((0 : Int) ≤ v5 ∧ v5 < (v1.len : Int)) (
      (H10.sts v1.b (v1.o + (v5 : Int).toNat * 2) [.int .i64 x7, .int .i64 x8]).bind fun H12 =>
      kt0 v1 v2 v3 (w64 (v4 + 1)) (w64 (v5 - 1)) H12))))))
noncomputable def r95_l2 (app : App) (kt0 : Sl → Int → AV → Int → Int → Hp → Option (Int × Hp)) : Nat → Sl → Int → AV → Int → Int → Hp → Option (Int × Hp)
  | 0, _, _, _, _, _, _ => none
  | k_ + 1, v1, v2, v3, v4, v5, H => if v4 ≤ v5 then
    (ck ((0 : Int) ≤ v2 ∧ v2 < (v1.len : Int)) (
    (H.ldI .i64 v1.b (v1.o + (v2 : Int).toNat * 2)).bind fun x3 =>
    (H.ldI .i64 v1.b ((v1.o + (v2 : Int).toNat * 2) + 1)).bind fun x4 =>
    ck ((0 : Int) ≤ v5 ∧ v5 < (v1.len : Int)) (
    (H.ldI .i64 v1.b (v1.o + (v5 : Int).toNat * 2)).bind fun x6 =>
    (H.ldI .i64 v1.b ((v1.o + (v5 : Int).toNat * 2) + 1)).bind fun x7 =>
    (callv app v3 [.agg [.int .i64 x3, .int .i64 x4], .agg [.int .i64 x6, .int .i64 x7]] H).bind fun p8 =>
    (p8.1.asI .i64).bind fun x9 =>
    r95_j4 app kt0 (fun v1_ v2_ v3_ v4_ v5_ H_ => r95_l2 app kt0 k_ v1_ v2_ v3_ v4_ v5_ H_) v1 v2 v3 v4 v5 (decide (x9 < 0)) p8.2)))
  else
    (r95_j4 app kt0 (fun v1_ v2_ v3_ v4_ v5_ H_ => r95_l2 app kt0 k_ v1_ v2_ v3_ v4_ v5_ H_) v1 v2 v3 v4 v5 false H)
noncomputable def r95_j3 (app : App) (kt0 : Sl → Int → AV → Int → Int → Hp → Option (Int × Hp)) (kt1 : Sl → Int → AV → Int → Int → Hp → Option (Int × Hp)) (v1 : Sl) (v2 : Int) (v3 : AV) (v4 : Int) (v5 : Int) (v6 : Bool) (H : Hp) : Option (Int × Hp) :=
  if v6 = true then
    (kt1 v1 v2 v3 (w64 (v4 + 1)) v5 H)
  else
    (r95_l2 app kt0 FUEL v1 v2 v3 v4 v5 H)
noncomputable def r95_l1 (app : App) (kt0 : Sl → Int → AV → Int → Int → Hp → Option (Int × Hp)) : Nat → Sl → Int → AV → Int → Int → Hp → Option (Int × Hp)
  | 0, _, _, _, _, _, _ => none
  | k_ + 1, v1, v2, v3, v4, v5, H => if v4 ≤ v5 then
    (ck ((0 : Int) ≤ v2 ∧ v2 < (v1.len : Int)) (
    (H.ldI .i64 v1.b (v1.o + (v2 : Int).toNat * 2)).bind fun x3 =>
    (H.ldI .i64 v1.b ((v1.o + (v2 : Int).toNat * 2) + 1)).bind fun x4 =>
    ck ((0 : Int) ≤ v4 ∧ v4 < (v1.len : Int)) (
    (H.ldI .i64 v1.b (v1.o + (v4 : Int).toNat * 2)).bind fun x6 =>
    (H.ldI .i64 v1.b ((v1.o + (v4 : Int).toNat * 2) + 1)).bind fun x7 =>
    (callv app v3 [.agg [.int .i64 x3, .int .i64 x4], .agg [.int .i64 x6, .int .i64 x7]] H).bind fun p8 =>
    (p8.1.asI .i64).bind fun x9 =>
    r95_j3 app kt0 (fun v1_ v2_ v3_ v4_ v5_ H_ => r95_l1 app kt0 k_ v1_ v2_ v3_ v4_ v5_ H_) v1 v2 v3 v4 v5 (!(decide (x9 < 0))) p8.2)))
  else
    (r95_j3 app kt0 (fun v1_ v2_ v3_ v4_ v5_ H_ => r95_l1 app kt0 k_ v1_ v2_ v3_ v4_ v5_ H_) v1 v2 v3 v4 v5 false H)
noncomputable def r95_l0 (app : App) : Nat → Sl → Int → AV → Int → Int → Hp → Option (Int × Hp)
  | 0, _, _, _, _, _, _ => none
  | k_ + 1, v1, v2, v3, v4, v5, H => r95_l1 app (fun v1_ v2_ v3_ v4_ v5_ H_ => r95_l0 app k_ v1_ v2_ v3_ v4_ v5_ H_) FUEL v1 v2 v3 v4 v5 H
noncomputable def r95 (app : App) (a0 : Sl) (a1 : Int) (a2 : Int) (a3 : Int) (a4 : AV) (H : Hp) : Option (Int × Hp) :=
  ck ((0 : Int) ≤ a3 ∧ a3 < (a0.len : Int)) (
  (H.ldI .i64 a0.b (a0.o + (a3 : Int).toNat * 2)).bind fun x2 =>
  (H.ldI .i64 a0.b ((a0.o + (a3 : Int).toNat * 2) + 1)).bind fun x3 =>
  ck ((0 : Int) ≤ a1 ∧ a1 < (a0.len : Int)) (
  (H.ldI .i64 a0.b (a0.o + (a1 : Int).toNat * 2)).bind fun x5 =>
  (H.ldI .i64 a0.b ((a0.o + (a1 : Int).toNat * 2) + 1)).bind fun x6 =>
  ck ((0 : Int) ≤ a1 ∧ a1 < (a0.len : Int)) (
  (H.sts a0.b (a0.o + (a1 : Int).toNat * 2) [.int .i64 x2, .int .i64 x3]).bind fun H8 =>
  ck ((0 : Int) ≤ a3 ∧ a3 < (a0.len : Int)) (
  (H8.sts a0.b (a0.o + (a3 : Int).toNat * 2) [.int .i64 x5, .int .i64 x6]).bind fun H10 =>
  r95_l0 app FUEL a0 a1 a4 (w64 (a1 + 1)) (w64 (a2 - 1)) H10))))
/- 96 slices.partitionCmpFunc[[2]int] -/
def ret96 : Int × Bool → AV := fun r => .tup [.int .i64 r.1, .bool r.2]
noncomputable def r96_j8 (app : App) (kt3 : Sl → Int → AV → Int → Int → Hp → Option ((Int × Bool) × Hp)) (kt6 : Sl → Int → AV → Int → Int → Hp → Option ((Int × Bool) × Hp)) (v1 : Sl) (v2 : Int) (v3 : AV) (v4 : Int) (v5 : Int) (v6 : Bool) (H : Hp) : Option ((Int × Bool) × Hp) :=
  if v6 = true then
    (kt6 v1 v2 v3 v4 (w64 (v5 - 1)) H)
  else
    (if v5 < v4 then
      (ck ((0 : Int) ≤ v2 ∧ v2 < (v1.len : Int)) (
      (H.ldI .i64 v1.b (v1.o + (v2 : Int).toNat * 2)).bind fun x4 =>
      (H.ldI .i64 v1.b ((v1.o + (v2 : Int).toNat * 2) + 1)).bind fun x5 =>
      ck ((0 : Int) ≤ v5 ∧ v5 < (v1.len : Int)) (
      (H.ldI .i64 v1.b (v1.o + (v5 : Int).toNat * 2)).bind fun x7 =>
      (H.ldI .i64 v1.b ((v1.o + (v5 : Int).toNat * 2) + 1)).bind fun x8 =>
      ck ((0 : Int) ≤ v5 ∧ v5 < (v1.len : Int)) (
      (H.sts v1.b (v1.o + (v5 : Int).toNat * 2) [.int .i64 x4, .int .i64 x5]).bind fun H10 =>
      ck ((0 : Int) ≤ v2 ∧ v2 < (v1.len : Int)) (
      (H10.sts v1.b (v1.o + (v2 : Int).toNat * 2) [.int .i64 x7, .int .i64 x8]).bind fun H12 =>
      some ((v5, false), H12))))))
    else
      (ck ((0 : Int) ≤ v5 ∧ v5 < (v1.len : Int)) (
      (H.ldI .i64 v1.b (v1.o + (v5 : Int).toNat * 2)).bind fun x14 =>
      (H.ldI .i64 v1.b ((v1.o + (v5 : Int).toNat * 2) + 1)).bind fun x15 =>
      ck ((0 : Int) ≤ v4 ∧ v4 < (v1.len : Int)) (
      (H.ldI .i64 v1.b (v1.o + (v4 : Int).toNat * 2)).bind fun x17 =>
      (H.ldI .i64 v1.b ((v1.o + (v4 : Int).toNat * 2) + 1)).bind fun x18 =>
      ck ((0 : Int) ≤ v4 ∧ v4 < (v1.len : Int)) (
      (H.sts v1.b (v1.o + (v4 : Int).toNat * 2) [.int .i64 x14, .int .i64 x15]).bind fun H20 =>
      ck ((0 : Int) ≤ v5 ∧ v5 < (v1.len : Int)) (
      (H20.sts v1.b (v1.o + (v5 : Int).toNat * 2) [.int .i64 x17, .int .i64 x18]).bind fun H22 =>
      kt3 v1 v2 v3 (w64 (v4 + 1)) (w64 (v5 - 1)) H22))))))
noncomputable def r96_l6 (app : App) (kt3 : Sl → Int → AV → Int → Int → Hp → Option ((Int × Bool) × Hp)) : Nat → Sl → Int → AV → Int → Int → Hp → Option ((Int × Bool) × Hp)
  | 0, _, _, _, _, _, _ => none
  | k_ + 1, v1, v2, v3, v4, v5, H => if v4 ≤ v5 then
    (ck ((0 : Int) ≤ v5 ∧ v5 < (v1.len : Int)) (
    (H.ldI .i64 v1.b (v1.o + (v5 : Int).toNat * 2)).bind fun x3 =>
    (H.ldI .i64 v1.b ((v1.o + (v5 : Int).toNat * 2) + 1)).bind fun x4 =>
    ck ((0 : Int) ≤ v2 ∧ v2 < (v1.len : Int)) (
    (H.ldI .i64 v1.b (v1.o + (v2 : Int).toNat * 2)).bind fun x6 =>
    (H.ldI .i64 v1.b ((v1.o + (v2 : Int).toNat * 2) + 1)).bind fun x7 =>
    (callv app v3 [.agg [.int .i64 x3, .int .i64 x4], .agg [.int .i64 x6, .int .i64 x7]] H).bind fun p8 =>
    (p8.1.asI .i64).bind fun x9 =>
    r96_j8 app kt3 (fun v1_ v2_ v3_ v4_ v5_ H_ => r96_l6 app kt3 k_ v1_ v2_ v3_ v4_ v5_ H_) v1 v2 v3 v4 v5 (!(decide (x9 < 0))) p8.2)))
  else
    (r96_j8 app kt3 (fun v1_ v2_ v3_ v4_ v5_ H_ => r96_l6 app kt3 k_ v1_ v2_ v3_ v4_ v5_ H_) v1 v2 v3 v4 v5 false H)
noncomputable def r96_j7 (app : App) (kt3 : Sl → Int → AV → Int → Int → Hp → Option ((Int × Bool) × Hp)) (kt5 : Sl → Int → AV → Int → Int → Hp → Option ((Int × Bool) × Hp)) (v1 : Sl) (v2 : Int) (v3 : AV) (v4 : Int) (v5 : Int) (v6 : Bool) (H : Hp) : Option ((Int × Bool) × Hp) :=
  if v6 = true then
    (kt5 v1 v2 v3 (w64 (v4 + 1)) v5 H)
  else
    (r96_l6 app kt3 FUEL v1 v2 v3 v4 v5 H)
noncomputable def r96_l5 (app : App) (kt3 : Sl → Int → AV → Int → Int → Hp → Option ((Int × Bool) × Hp)) : Nat → Sl → Int → AV → Int → Int → Hp → Option ((Int × Bool) × Hp)
  | 0, _, _, _, _, _, _ => none
  | k_ + 1, v1, v2, v3, v4, v5, H => if v4 ≤ v5 then
    (ck ((0 : Int) ≤ v4 ∧ v4 < (v1.len : Int)) (
    (H.ldI .i64 v1.b (v1.o + (v4 : Int).toNat * 2)).bind fun x3 =>
    (H.ldI .i64 v1.b ((v1.o + (v4 : Int).toNat * 2) + 1)).bind fun x4 =>
    ck ((0 : Int) ≤ v2 ∧ v2 < (v1.len : Int)) (
    (H.ldI .i64 v1.b (v1.o + (v2 : Int).toNat * 2)).bind fun x6 =>
    (H.ldI .i64 v1.b ((v1.o + (v2 : Int).toNat * 2) + 1)).bind fun x7 =>
    (callv app v3 [.agg [.int .i64 x3, .int .i64 x4], .agg [.int .i64 x6, .int .i64 x7]] H).bind fun p8 =>
    (p8.1.asI .i64).bind fun x9 =>
    r96_j7 app kt3 (fun v1_ v2_ v3_ v4_ v5_ H_ => r96_l5 app kt3 k_ v1_ v2_ v3_ v4_ v5_ H_) v1 v2 v3 v4 v5 (decide (x9 < 0)) p8.2)))
  else
    (r96_j7 app kt3 (fun v1_ v2_ v3_ v4_ v5_ H_ => r96_l5 app kt3 k_ v1_ v2_ v3_ v4_ v5_ H_) v1 v2 v3 v4 v5 false H)
noncomputable def r96_l3 (app : App) : Nat → Sl → Int → AV → Int → Int → Hp → Option ((Int × Bool) × Hp)
  | 0, _, _, _, _, _, _ => none
  | k_ + 1, v1, v2, v3, v4, v5, H => r96_l5 app (fun v1_ v2_ v3_ v4_ v5_ H_ => r96_l3 app k_ v1_ v2_ v3_ v4_ v5_ H_) FUEL v1 v2 v3 v4 v5 H
noncomputable def r96_j4 (app : App) (kt1 : Sl → Int → AV → Int → Int → Hp → Option ((Int × Bool) × Hp)) (v1 : Sl) (v2 : Int) (v3 : AV) (v4 : Int) (v5 : Int) (v6 : Bool) (H : Hp) : Option ((Int × Bool) × Hp) :=
  if v6 = true then
    (kt1 v1 v2 v3 v4 (w64 (v5 - 1)) H)
  else
    (if v5 < v4 then
      (ck ((0 : Int) ≤ v2 ∧ v2 < (v1.len : Int)) (
      (H.ldI .i64 v1.b (v1.o + (v2 : Int).toNat * 2)).bind fun x4 =>
      (H.ldI .i64 v1.b ((v1.o + (v2 : Int).toNat * 2) + 1)).bind fun x5 =>
      ck ((0 : Int) ≤ v5 ∧ v5 < (v1.len : Int)) (
      (H.ldI .i64 v1.b (v1.o + (v5 : Int).toNat * 2)).bind fun x7 =>
      (H.ldI .i64 v1.b ((v1.o + (v5 : Int).toNat * 2) + 1)).bind fun x8 =>
      ck ((0 : Int) ≤ v5 ∧ v5 < (v1.len : Int)) (
      (H.sts v1.b (v1.o + (v5 : Int).toNat * 2) [.int .i64 x4, .int .i64 x5]).bind fun H10 =>
      ck ((0 : Int) ≤ v2 ∧ v2 < (v1.len : Int)) (
      (H10.sts v1.b (v1.o + (v2 : Int).toNat * 2) [.int .i64 x7, .int .i64 x8]).bind fun H12 =>
      some ((v5, true), H12))))))
    else
      (ck ((0 : Int) ≤ v5 ∧ v5 < (v1.len : Int)) (
      (H.ldI .i64 v1.b (v1.o + (v5 : Int).toNat * 2)).bind fun x14 =>
      (H.ldI .i64 v1.b ((v1.o + (v5 : Int).toNat * 2) + 1)).bind fun x15 =>
      ck ((0 : Int) ≤ v4 ∧ v4 < (v1.len : Int)) (
      (H.ldI .i64 v1.b (v1.o + (v4 : Int).toNat * 2)).bind fun x17 =>
      (H.ldI .i64 v1.b ((v1.o + (v4 : Int).toNat * 2) + 1)).bind fun x18 =>
      ck ((0 : Int) ≤ v4 ∧ v4 < (v1.len : Int)) (
      (H.sts v1.b (v1.o + (v4 : Int).toNat * 2) [.int .i64 x14, .int .i64 x15]).bind fun H20 =>
      ck ((0 : Int) ≤ v5 ∧ v5 < (v1.len : Int)) (
      (H20.sts v1.b (v1.o + (v5 : Int).toNat * 2) [.int .i64 x17, .int .i64 x18]).bind fun H22 =>
      r96_l3 app FUEL v1 v2 v3 (w64 (v4 + 1)) (w64 (v5 - 1)) H22))))))
noncomputable def r96_l1 (app : App) : Nat → Sl → Int → AV → Int → Int → Hp → Option ((Int × Bool) × Hp)
  | 0, _, _, _, _, _, _ => none
  | k_ + 1, v1, v2, v3, v4, v5, H => if v4 ≤ v5 then
    (ck ((0 : Int) ≤ v5 ∧ v5 < (v1.len : Int)) (
    (H.ldI .i64 v1.b (v1.o + (v5 : Int).toNat * 2)).bind fun x3 =>
    (H.ldI .i64 v1.b ((v1.o + (v5 : Int).toNat * 2) + 1)).bind fun x4 =>
    ck ((0 : Int) ≤ v2 ∧ v2 < (v1.len : Int)) (
    (H.ldI .i64 v1.b (v1.o + (v2 : Int).toNat * 2)).bind fun x6 =>
    (H.ldI .i64 v1.b ((v1.o + (v2 : Int).toNat * 2) + 1)).bind fun x7 =>
    (callv app v3 [.agg [.int .i64 x3, .int .i64 x4], .agg [.int .i64 x6, .int .i64 x7]] H).bind fun p8 =>
    (p8.1.asI .i64).bind fun x9 =>
    r96_j4 app (fun v1_ v2_ v3_ v4_ v5_ H_ => r96_l1 app k_ v1_ v2_ v3_ v4_ v5_ H_) v1 v2 v3 v4 v5 (!(decide (x9 < 0))) p8.2)))
  else
    (r96_j4 app (fun v1_ v2_ v3_ v4_ v5_ H_ => r96_l1 app k_ v1_ v2_ v3_ v4_ v5_ H_) v1 v2 v3 v4 v5 false H)
noncomputable def r96_j2 (app : App) (kt0 : Sl → Int → AV → Int → Int → Hp → Option ((Int × Bool) × Hp)) (v1 : Sl) (v2 : Int) (v3 : AV) (v4 : Int) (v5 : Int) (v6 : Bool) (H : Hp) : Option ((Int × Bool) × Hp) :=
  if v6 = true then
    (kt0 v1 v2 v3 (w64 (v4 + 1)) v5 H)
  else
    (r96_l1 app FUEL v1 v2 v3 v4 v5 H)
noncomputable def r96_l0 (app : App) : Nat → Sl → Int → AV → Int → Int → Hp → Option ((Int × Bool) × Hp)
  | 0, _, _, _, _, _, _ => none
  | k_ + 1, v1, v2, v3, v4, v5, H => if v4 ≤ v5 then
    (ck ((0 : Int) ≤ v4 ∧ v4 < (v1.len : Int)) (
    (H.ldI .i64 v1.b (v1.o + (v4 : Int).toNat * 2)).bind fun x3 =>
    (H.ldI .i64 v1.b ((v1.o + (v4 : Int).toNat * 2) + 1)).bind fun x4 =>
    ck ((0 : Int) ≤ v2 ∧ v2 < (v1.len : Int)) (
    (H.ldI .i64 v1.b (v1.o + (v2 : Int).toNat * 2)).bind fun x6 =>
    (H.ldI .i64 v1.b ((v1.o + (v2 : Int).toNat * 2) + 1)).bind fun x7 =>
    (callv app v3 [.agg [.int .i64 x3, .int .i64 x4], .agg [.int .i64 x6, .int .i64 x7]] H).bind fun p8 =>
    (p8.1.asI .i64).bind fun x9 =>
    r96_j2 app (fun v1_ v2_ v3_ v4_ v5_ H_ => r96_l0 app k_ v1_ v2_ v3_ v4_ v5_ H_) v1 v2 v3 v4 v5 (decide (x9 < 0)) p8.2)))
  else
    (r96_j2 app (fun v1_ v2_ v3_ v4_ v5_ H_ => r96_l0 app k_ v1_ v2_ v3_ v4_ v5_ H_) v1 v2 v3 v4 v5 false H)
noncomputable def r96 (app : App) (a0 : Sl) (a1 : Int) (a2 : Int) (a3 : Int) (a4 : AV) (H : Hp) : Option ((Int × Bool) × Hp) :=
  ck ((0 : Int) ≤ a3 ∧ a3 < (a0.len : Int)) (
  (H.ldI .i64 a0.b (a0.o + (a3 : Int).toNat * 2)).bind fun x2 =>
  (H.ldI .i64 a0.b ((a0.o + (a3 : Int).toNat * 2) + 1)).bind fun x3 =>
  ck ((0 : Int) ≤ a1 ∧ a1 < (a0.len : Int)) (
  (H.ldI .i64 a0.b (a0.o + (a1 : Int).toNat * 2)).bind fun x5 =>
  (H.ldI .i64 a0.b ((a0.o + (a1 : Int).toNat * 2) + 1)).bind fun x6 =>
  ck ((0 : Int) ≤ a1 ∧ a1 < (a0.len : Int)) (
  (H.sts a0.b (a0.o + (a1 : Int).toNat * 2) [.int .i64 x2, .int .i64 x3]).bind fun H8 =>
  ck ((0 : Int) ≤ a3 ∧ a3 < (a0.len : Int)) (
  (H8.sts a0.b (a0.o + (a3 : Int).toNat * 2) [.int .i64 x5, .int .i64 x6]).bind fun H10 =>
  r96_l0 app FUEL a0 a1 a4 (w64 (a1 + 1)) (w64 (a2 - 1)) H10))))
/- 87 slices.pdqsortCmpFunc[[2]int] -/
def ret87 : Unit → AV := fun _ => .tup []
noncomputable def r87_j1 (app : App) (kt0 : Sl → Int → Int → Int → AV → Bool → Bool → Hp → Option (Unit × Hp)) (v1 : Sl) (v2 : Int) (v3 : Int) (v4 : Int) (v5 : AV) (v6 : Bool) (v7 : Bool) (v8 : Int) (v9 : Int) (v10 : Bool) (H : Hp) : Option (Unit × Hp) :=
  if v10 = true then
    ((r95 app v1 v2 v3 v9 v5 H).bind fun p2 =>
    kt0 v1 p2.1 v3 v4 v5 v6 v7 p2.2)
  else
    ((r96 app v1 v2 v3 v9 v5 H).bind fun p3 =>
    if (w64 (p3.1.1 - v2)) < (w64 (v3 - p3.1.1)) then
      ((app 87 [.sl v1, .int .i64 v2, .int .i64 p3.1.1, .int .i64 v4, v5] p3.2).bind fun p5 =>
      kt0 v1 (w64 (p3.1.1 + 1)) v3 v4 v5 (decide ((w64 (Int.tdiv v8 8)) ≤ (w64 (p3.1.1 - v2)))) p3.1.2 p5.2)
    else
      ((app 87 [.sl v1, .int .i64 (w64 (p3.1.1 + 1)), .int .i64 v3, .int .i64 v4, v5] p3.2).bind fun p6 =>
      kt0 v1 v2 p3.1.1 v4 v5 (decide ((w64 (Int.tdiv v8 8)) ≤ (w64 (v3 - p3.1.1)))) p3.1.2 p6.2))
noncomputable def r87_j2 (app : App) (kt0 : Sl → Int → Int → Int → AV → Bool → Bool → Hp → Option (Unit × Hp)) (v1 : Sl) (v2 : Int) (v3 : Int) (v4 : Int) (v5 : AV) (v6 : Bool) (v7 : Bool) (v8 : Int) (v9 : Int) (H : Hp) : Option (Unit × Hp) :=
  if 0 < v2 then
    (ck ((0 : Int) ≤ (w64 (v2 - 1)) ∧ (w64 (v2 - 1)) < (v1.len : Int)) (
    (H.ldI .i64 v1.b (v1.o + (w64 (v2 - 1) : Int).toNat * 2)).bind fun x3 =>
    (H.ldI .i64 v1.b ((v1.o + (w64 (v2 - 1) : Int).toNat * 2) + 1)).bind fun x4 =>
    ck ((0 : Int) ≤ v9 ∧ v9 < (v1.len : Int)) (
    (H.ldI .i64 v1.b (v1.o + (v9 : Int).toNat * 2)).bind fun x6 =>
    (H.ldI .i64 v1.b ((v1.o + (v9 : Int).toNat * 2) + 1)).bind fun x7 =>
    (callv app v5 [.agg [.int .i64 x3, .int .i64 x4], .agg [.int .i64 x6, .int .i64 x7]] H).bind fun p8 =>
    (p8.1.asI .i64).bind fun x9 =>
    r87_j1 app kt0 v1 v2 v3 v4 v5 v6 v7 v8 v9 (!(decide (x9 < 0))) p8.2)))
  else
    (r87_j1 app kt0 v1 v2 v3 v4 v5 v6 v7 v8 v9 false H)
noncomputable def r87_j3 (app : App) (kt0 : Sl → Int → Int → Int → AV → Bool → Bool → Hp → Option (Unit × Hp)) (v1 : Sl) (v2 : Int) (v3 : Int) (v4 : Int) (v5 : AV) (v6 : Bool) (v7 : Bool) (v8 : Int) (v9 : Int) (v10 : Bool) (H : Hp) : Option (Unit × Hp) :=
  if v10 = true then
    ((r94 app v1 v2 v3 v5 H).bind fun p2 =>
    if p2.1 = true then
      (some ((), p2.2))
    else
      (r87_j2 app kt0 v1 v2 v3 v4 v5 v6 v7 v8 v9 p2.2))
  else
    (r87_j2 app kt0 v1 v2 v3 v4 v5 v6 v7 v8 v9 H)
noncomputable def r87_j4 (app : App) (kt0 : Sl → Int → Int → Int → AV → Bool → Bool → Hp → Option (Unit × Hp)) (v1 : Sl) (v2 : Int) (v3 : Int) (v4 : Int) (v5 : AV) (v6 : Bool) (v7 : Bool) (v8 : Int) (v9 : Int) (v10 : Int) (H : Hp) : Option (Unit × Hp) :=
  if v6 = true then
    (if v7 = true then
      (r87_j3 app kt0 v1 v2 v3 v4 v5 true true v8 v9 (decide (v10 = 1)) H)
    else
      (r87_j3 app kt0 v1 v2 v3 v4 v5 true false v8 v9 false H))
  else
    (r87_j3 app kt0 v1 v2 v3 v4 v5 false v7 v8 v9 false H)
noncomputable def r87_j5 (app : App) (kt0 : Sl → Int → Int → Int → AV → Bool → Bool → Hp → Option (Unit × Hp)) (v1 : Sl) (v2 : Int) (v3 : Int) (v4 : Int) (v5 : AV) (v6 : Bool) (v7 : Bool) (v8 : Int) (H : Hp) : Option (Unit × Hp) :=
  (r92 app v1 v2 v3 v5 H).bind fun p1 =>
  if p1.1.2 = 2 then
    ((r93 v1 v2 v3 v5 p1.2).bind fun p3 =>
    r87_j4 app kt0 v1 v2 v3 v4 v5 v6 v7 v8 (w64 ((w64 (v3 - 1)) - (w64 (p1.1.1 - v2)))) 1 p3.2)
  else
    (r87_j4 app kt0 v1 v2 v3 v4 v5 v6 v7 v8 p1.1.1 p1.1.2 p1.2)
noncomputable def r87_l0 (app : App) : Nat → Sl → Int → Int → Int → AV → Bool → Bool → Hp → Option (Unit × Hp)
  | 0, _, _, _, _, _, _, _, _ => none
  | k_ + 1, v1, v2, v3, v4, v5, v6, v7, H => if (w64 (v3 - v2)) ≤ 12 then
    ((r89 app v1 v2 v3 v5 H).bind fun p2 =>
    some ((), p2.2))
  else
    (if v4 = 0 then
      ((r90 app v1 v2 v3 v5 H).bind fun p4 =>
      some ((), p4.2))
    else
      (if v6 = true then
        (r87_j5 app (fun v1_ v2_ v3_ v4_ v5_ v6_ v7_ H_ => r87_l0 app k_ v1_ v2_ v3_ v4_ v5_ v6_ v7_ H_) v1 v2 v3 v4 v5 true v7 (w64 (v3 - v2)) H)
      else
        ((r91 v1 v2 v3 v5 H).bind fun p6 =>
        r87_j5 app (fun v1_ v2_ v3_ v4_ v5_ v6_ v7_ H_ => r87_l0 app k_ v1_ v2_ v3_ v4_ v5_ v6_ v7_ H_) v1 v2 v3 (w64 (v4 - 1)) v5 false v7 (w64 (v3 - v2)) p6.2)))
noncomputable def r87 (app : App) (a0 : Sl) (a1 : Int) (a2 : Int) (a3 : Int) (a4 : AV) (H : Hp) : Option (Unit × Hp) :=
  r87_l0 app FUEL a0 a1 a2 a3 a4 true true H
/- 83 slices.SortFunc[[][2]int,[2]int] -/
def ret83 : Unit → AV := fun _ => .tup []
noncomputable def r83 (app : App) (a0 : Sl) (a1 : AV) (H : Hp) : Option (Unit × Hp) :=
  (r88 (IntKind.wrap .u64 ((a0.len : Int))) H).bind fun p1 =>
  (r87 app a0 0 (a0.len : Int) p1.1 a1 p1.2).bind fun p2 =>
  some ((), p2.2)
/- 72 slices.SortedFunc[[2]int] -/
def ret72 : Sl → AV := fun r => .sl r
noncomputable def r72 (app : App) (a0 : AV) (a1 : AV) (H : Hp) : Option (Sl × Hp) :=
  (r82 app a0 H).bind fun p1 =>
  (r83 app p1.1 a1 p1.2).bind fun p2 =>
  some (p1.1, p2.2)
/- 73 slices.Values[congou/deals.offers,[2]int] -/
def ret73 : AV → AV := fun r => r
noncomputable def r73 (a0 : Sl) (H : Hp) : Option (AV × Hp) :=
  lt (H.push (.cells [.sl a0] false)) fun H1 =>
  some (.fn 84 [] [.ptr H.n 0], H1)
/- 85 cmp.isNaN[int] -/
def ret85 : Bool → AV := fun r => .bool r
noncomputable def r85 (a0 : Int) (H : Hp) : Option (Bool × Hp) :=
  some ((decide (a0 ≠ a0)), H)
/- 80 cmp.Compare[int] -/
def ret80 : Int → AV := fun r => .int .i64 r
noncomputable def r80 (a0 : Int) (a1 : Int) (H : Hp) : Option (Int × Hp) :=
  (r85 a0 H0).bind fun p1 =>
  (r85 a1 H0).bind fun p2 =>
  if p1.1 = true then
    (if p2.1 = true then
      (some (0, H))
    else
      (some ((-1), H)))
  else
    (if p2.1 = true then
      (some (1, H))
    else
      (if a0 < a1 then
        (some ((-1), H))
      else
        (if a1 < a0 then
          (some (1, H))
        else
          (some (0, H)))))
/- 75 slices.Compare[[]int,int] -/
def ret75 : Int → AV := fun r => .int .i64 r
noncomputable def r75_l0 : Nat → Sl → Sl → Sl → Int → Int → Hp → Option (Int × Hp)
  | 0, _, _, _, _, _, _ => none
  | k_ + 1, v1, v2, v3, v4, v5, H => if v5 < v4 then
    (ck ((0 : Int) ≤ v5 ∧ v5 < (v3.len : Int)) (
    (H.ldI .i64 v3.b (v3.o + (v5 : Int).toNat * 1)).bind fun x3 =>
    if (v2.len : Int) ≤ v5 then
      (some (1, H))
    else
      (ck ((0 : Int) ≤ v5 ∧ v5 < (v2.len : Int)) (
      (H.ldI .i64 v2.b (v2.o + (v5 : Int).toNat * 1)).bind fun x6 =>
      (r80 x3 x6 H0).bind fun p7 =>
      if p7.1 ≠ 0 then
        (some (p7.1, H))
      else
        (r75_l0 k_ v1 v2 v3 v4 (w64 (v5 + 1)) H)))))
  else
    (if (v1.len : Int) < (v2.len : Int) then
      (some ((-1), H))
    else
      (some (0, H)))
noncomputable def r75 (a0 : Sl) (a1 : Sl) (H : Hp) : Option (Int × Hp) :=
  r75_l0 FUEL a0 a1 a0 (a0.len : Int) 0 H
/- 74 (congou/deals.offers).edge$1 -/
def ret74 : Int → AV := fun r => .int .i64 r
noncomputable def r74 (a0_0 : Int) (a0_1 : Int) (a1_0 : Int) (a1_1 : Int) (H : Hp) : Option (Int × Hp) :=
  lt ((H.push (.cells [.int .i64 a0_0, .int .i64 a0_1] false)).push (.cells [.int .i64 a1_0, .int .i64 a1_1] false)) fun H1 =>
  (r75 ⟨false, H.n, 0 + (0 : Int).toNat * 1, (((2 : Nat) : Int) : Int).toNat - (0 : Int).toNat, 2 - (0 : Int).toNat, 0⟩ ⟨false, (H.push (.cells [.int .i64 a0_0, .int .i64 a0_1] false)).n, 0 + (0 : Int).toNat * 1, (((2 : Nat) : Int) : Int).toNat - (0 : Int).toNat, 2 - (0 : Int).toNat, 0⟩ H1).bind fun p2 =>
  some (p2.1, p2.2)
/- 76 congou/deals.turns -/
def ret76 : Int → AV := fun r => .int .i64 r
noncomputable def r76 (a0_0 : Int) (a0_1 : Int) (a1_0 : Int) (a1_1 : Int) (a2_0 : Int) (a2_1 : Int) (H : Hp) : Option (Int × Hp) :=
  lt (((H.push (.cells [.int .i64 a0_0, .int .i64 a0_1] false)).push (.cells [.int .i64 a1_0, .int .i64 a1_1] false)).push (.cells [.int .i64 a2_0, .int .i64 a2_1] false)) fun H1 =>
  (H1.ldI .i64 ((H.push (.cells [.int .i64 a0_0, .int .i64 a0_1] false)).n) (0 + (0 : Int).toNat * 1)).bind fun x2 =>
  (H1.ldI .i64 H.n (0 + (0 : Int).toNat * 1)).bind fun x3 =>
  (H1.ldI .i64 (((H.push (.cells [.int .i64 a0_0, .int .i64 a0_1] false)).push (.cells [.int .i64 a1_0, .int .i64 a1_1] false)).n) (0 + (1 : Int).toNat * 1)).bind fun x4 =>
  (H1.ldI .i64 ((H.push (.cells [.int .i64 a0_0, .int .i64 a0_1] false)).n) (0 + (1 : Int).toNat * 1)).bind fun x5 =>
  (H1.ldI .i64 ((H.push (.cells [.int .i64 a0_0, .int .i64 a0_1] false)).n) (0 + (1 : Int).toNat * 1)).bind fun x6 =>
  (H1.ldI .i64 H.n (0 + (1 : Int).toNat * 1)).bind fun x7 =>
  (H1.ldI .i64 (((H.push (.cells [.int .i64 a0_0, .int .i64 a0_1] false)).push (.cells [.int .i64 a1_0, .int .i64 a1_1] false)).n) (0 + (0 : Int).toNat * 1)).bind fun x8 =>
  (H1.ldI .i64 ((H.push (.cells [.int .i64 a0_0, .int .i64 a0_1] false)).n) (0 + (0 : Int).toNat * 1)).bind fun x9 =>
  some (w64 ((w64 ((w64 (x2 - x3)) * (w64 (x4 - x5)))) - (w64 ((w64 (x6 - x7)) * (w64 (x8 - x9))))), H1)
/- 56 (congou/deals.offers).edge -/
def ret56 : Sl → AV := fun r => .sl r
noncomputable def r56_j4 (app : App) (kt0 : Sl → Sl → Int → Int → Hp → Option (Sl × Hp)) (kt2 : Sl → Nat → Sl → Int → Int → Hp → Option (Sl × Hp)) (v1 : Sl) (v2 : Nat) (v3 : Sl) (v4 : Int) (v5 : Int) (v6 : Bool) (H : Hp) : Option (Sl × Hp) :=
  if v6 = true then
    (ck (((0 : Int) ≤ 0 ∧ 0 ≤ (w64 ((v1.len : Int) - 1)) ∧ (w64 ((v1.len : Int) - 1)) ≤ (v1.cap : Int)) ∧ (v1.opn = 0 ∨ v1.opn = 2)) (
    kt2 (v1.cut 2 (0 : Int).toNat (w64 ((v1.len : Int) - 1) : Int).toNat) v2 v3 v4 v5 H))
  else
    ((H.ldI .i64 v2 0).bind fun x3 =>
    (H.ldI .i64 v2 (0 + 1)).bind fun x4 =>
    (H.apN 2 v1 [.int .i64 x3, .int .i64 x4] 1).bind fun x5 =>
    kt0 x5.1 v3 v4 (w64 (v5 + 1)) x5.2)
noncomputable def r56_l2 (app : App) (kt0 : Sl → Sl → Int → Int → Hp → Option (Sl × Hp)) : Nat → Sl → Nat → Sl → Int → Int → Hp → Option (Sl × Hp)
  | 0, _, _, _, _, _, _ => none
  | k_ + 1, v1, v2, v3, v4, v5, H => if 1 < (v1.len : Int) then
    (ck ((0 : Int) ≤ (w64 ((v1.len : Int) - 2)) ∧ (w64 ((v1.len : Int) - 2)) < (v1.len : Int)) (
    (H.ldI .i64 v1.b (v1.o + (w64 ((v1.len : Int) - 2) : Int).toNat * 2)).bind fun x3 =>
    (H.ldI .i64 v1.b ((v1.o + (w64 ((v1.len : Int) - 2) : Int).toNat * 2) + 1)).bind fun x4 =>
    ck ((0 : Int) ≤ (w64 ((v1.len : Int) - 1)) ∧ (w64 ((v1.len : Int) - 1)) < (v1.len : Int)) (
    (H.ldI .i64 v1.b (v1.o + (w64 ((v1.len : Int) - 1) : Int).toNat * 2)).bind fun x6 =>
    (H.ldI .i64 v1.b ((v1.o + (w64 ((v1.len : Int) - 1) : Int).toNat * 2) + 1)).bind fun x7 =>
    (H.ldI .i64 v2 0).bind fun x8 =>
    (H.ldI .i64 v2 (0 + 1)).bind fun x9 =>
    (r76 x3 x4 x6 x7 x8 x9 H0).bind fun p10 =>
    r56_j4 app kt0 (fun v1_ v2_ v3_ v4_ v5_ H_ => r56_l2 app kt0 k_ v1_ v2_ v3_ v4_ v5_ H_) v1 v2 v3 v4 v5 (decide (0 ≤ p10.1)) H)))
  else
    (r56_j4 app kt0 (fun v1_ v2_ v3_ v4_ v5_ H_ => r56_l2 app kt0 k_ v1_ v2_ v3_ v4_ v5_ H_) v1 v2 v3 v4 v5 false H)
noncomputable def r56_j3 (app : App) (kt0 : Sl → Sl → Int → Int → Hp → Option (Sl × Hp)) (kt1 : Sl → Nat → Sl → Int → Int → Hp → Option (Sl × Hp)) (v1 : Sl) (v2 : Nat) (v3 : Sl) (v4 : Int) (v5 : Int) (v6 : Bool) (H : Hp) : Option (Sl × Hp) :=
  if v6 = true then
    (ck (((0 : Int) ≤ 0 ∧ 0 ≤ (w64 ((v1.len : Int) - 1)) ∧ (w64 ((v1.len : Int) - 1)) ≤ (v1.cap : Int)) ∧ (v1.opn = 0 ∨ v1.opn = 2)) (
    kt1 (v1.cut 2 (0 : Int).toNat (w64 ((v1.len : Int) - 1) : Int).toNat) v2 v3 v4 v5 H))
  else
    (r56_l2 app kt0 FUEL v1 v2 v3 v4 v5 H)
noncomputable def r56_l1 (app : App) (kt0 : Sl → Sl → Int → Int → Hp → Option (Sl × Hp)) : Nat → Sl → Nat → Sl → Int → Int → Hp → Option (Sl × Hp)
  | 0, _, _, _, _, _, _ => none
  | k_ + 1, v1, v2, v3, v4, v5, H => if 0 < (v1.len : Int) then
    (ck ((0 : Int) ≤ (w64 ((v1.len : Int) - 1)) ∧ (w64 ((v1.len : Int) - 1)) < (v1.len : Int)) (
    (H.ldI .i64 v1.b ((v1.o + (w64 ((v1.len : Int) - 1) : Int).toNat * 2) + (1 : Int).toNat * 1)).bind fun x3 =>
    (H.ldI .i64 v2 (0 + (1 : Int).toNat * 1)).bind fun x4 =>
    r56_j3 app kt0 (fun v1_ v2_ v3_ v4_ v5_ H_ => r56_l1 app kt0 k_ v1_ v2_ v3_ v4_ v5_ H_) v1 v2 v3 v4 v5 (decide (x3 ≤ x4)) H))
  else
    (r56_j3 app kt0 (fun v1_ v2_ v3_ v4_ v5_ H_ => r56_l1 app kt0 k_ v1_ v2_ v3_ v4_ v5_ H_) v1 v2 v3 v4 v5 false H)
noncomputable def r56_l0 (app : App) : Nat → Sl → Sl → Int → Int → Hp → Option (Sl × Hp)
  | 0, _, _, _, _, _ => none
  | k_ + 1, v1, v2, v3, v4, H => if v4 < v3 then
    (ck ((0 : Int) ≤ v4 ∧ v4 < (v2.len : Int)) (
    (H.ldI .i64 v2.b (v2.o + (v4 : Int).toNat * 2)).bind fun x3 =>
    (H.ldI .i64 v2.b ((v2.o + (v4 : Int).toNat * 2) + 1)).bind fun x4 =>
    ((H.push (.cells [.int .i64 0, .int .i64 0] false)).sts H.n 0 [.int .i64 x3, .int .i64 x4]).bind fun H5 =>
    r56_l1 app (fun v1_ v2_ v3_ v4_ H_ => r56_l0 app k_ v1_ v2_ v3_ v4_ H_) FUEL v1 H.n v2 v3 v4 H5))
  else
    (some (v1, H))
noncomputable def r56 (app : App) (a0 : Sl) (H : Hp) : Option (Sl × Hp) :=
  (r73 a0 H).bind fun p1 =>
  (r72 app p1.1 (.fn 74 [] []) p1.2).bind fun p2 =>
  r56_l0 app FUEL ⟨true, 0, 0, 0, 0, 0⟩ p2.1 (p2.1.len : Int) 0 p2.2
end Go.Lt.P5
