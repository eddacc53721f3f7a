/- PRINTED BY A PROGRAM OF OURS: what each function that 'PairsTurned' reaches computes on the abstract heap, and that the translated code does just that. Nothing is asked of the input. -/
import Derived.Test.YthmhdbmpeepmaaaG11T
set_option linter.unusedVariables false
set_option linter.unusedSimpArgs false
set_option maxRecDepth 100000
set_option maxHeartbeats 4000000
namespace Go.Lt.P8
open Go Go.Lt Go.Proofs
/- 80 congou/pairs.isShift -/
def ret80 : Bool → AV := fun r => .bool r
noncomputable def r80 (a0 : Int) (H : Hp) : Option (Bool × Hp) :=
  if a0 = 1 then
    (some (true, H))
  else
    (some ((decide (a0 = 2)), H))
/- 72 congou/pairs.isRows -/
def ret72 : Bool → AV := fun r => .bool r
noncomputable def r72 (a0 : Int) (a1 : Int) (H : Hp) : Option (Bool × Hp) :=
  if 1 ≤ a0 then
    (if a0 ≤ 8 then
      ((r80 a1 H).bind fun p3 =>
      some (p3.1, p3.2))
    else
      (some (false, H)))
  else
    (some (false, H))
/- 73 congou/pairs.rows -/
def ret73 : Unit → AV := fun _ => .tup []
noncomputable def r73 (app : App) (a0 : Int) (a1 : Int) (a2 : AV) (H : Hp) : Option (Unit × Hp) :=
  ck (AV.one a2 = true) (
  lt (((H.push (.cells [.int .i64 a0] false)).push (.cells [.int .i64 a1] false)).push (.cells [a2] false)) fun H2 =>
  (H2.ldI .i64 H.n 0).bind fun x3 =>
  ck ((0 : Int) ≤ (w64 (2 * x3)) ∧ (w64 (2 * x3)) ≤ (w64 (2 * x3)) ∧ (w64 (2 * x3)) ≤ 4294967296) (
  (((H2.push (.cells (zerosA [.int .i64 0] ((w64 (2 * x3) : Int).toNat * 1)) false)).push (.cells [.sl ⟨true, 0, 0, 0, 0, 0⟩] false)).st ((H2.push (.cells (zerosA [.int .i64 0] ((w64 (2 * x3) : Int).toNat * 1)) false)).n) 0 (.sl ⟨false, H2.n, 0, (w64 (2 * x3) : Int).toNat, (w64 (2 * x3) : Int).toNat, 0⟩)).bind fun H5 =>
  lt (H5.push (.cells [.nilfn] false)) fun H6 =>
  (H6.st H5.n 0 (.fn 107 [] [.ptr ((H2.push (.cells (zerosA [.int .i64 0] ((w64 (2 * x3) : Int).toNat * 1)) false)).n) 0, .ptr (((H.push (.cells [.int .i64 a0] false)).push (.cells [.int .i64 a1] false)).n) 0, .ptr H.n 0, .ptr ((H.push (.cells [.int .i64 a0] false)).n) 0, .ptr H5.n 0])).bind fun H7 =>
  (H7.ldV H5.n 0).bind fun x8 =>
  (callv app x8 [.int .i64 0] H7).bind fun p9 =>
  (p9.1.asB).bind fun x10 =>
  some ((), p9.2)))
/- 20 congou/pairs.First -/
def ret20 : Sl × Int → AV := fun r => .tup [.sl r.1, .int .i64 r.2]
noncomputable def r20 (app : App) (a0 : Int) (a1 : Int) (H : Hp) : Option ((Sl × Int) × Hp) :=
  (r72 a0 a1 H).bind fun p1 =>
  if p1.1 = true then
    (lt (p1.2.push (.cells [.sl ⟨true, 0, 0, 0, 0, 0⟩] false)) fun H3 =>
    (r73 app a0 a1 (.fn 74 [] [.ptr p1.2.n 0]) H3).bind fun p4 =>
    (p4.2.ldSl p1.2.n 0).bind fun x5 =>
    if x5.nil = true then
      (some ((⟨true, 0, 0, 0, 0, 0⟩, 4), p4.2))
    else
      ((p4.2.ldSl p1.2.n 0).bind fun x7 =>
      some ((x7, 0), p4.2)))
  else
    (some ((⟨true, 0, 0, 0, 0, 0⟩, 2), p1.2))
/- 25 slices.Equal[[]int,int] -/
def ret25 : Bool → AV := fun r => .bool r
noncomputable def r25_l0 : Nat → Sl → Sl → Int → Int → Hp → Option (Bool × Hp)
  | 0, _, _, _, _, _ => none
  | k_ + 1, v1, v2, v3, v4, H => if v4 < v3 then
    (ck ((0 : Int) ≤ v4 ∧ v4 < (v1.len : Int)) (
    (H.ldI .i64 v1.b (v1.o + (v4 : Int).toNat * 1)).bind fun x3 =>
    ck ((0 : Int) ≤ v4 ∧ v4 < (v2.len : Int)) (
    (H.ldI .i64 v2.b (v2.o + (v4 : Int).toNat * 1)).bind fun x5 =>
    if x3 ≠ x5 then
      (some (false, H))
    else
      (r25_l0 k_ v1 v2 v3 (w64 (v4 + 1)) H))))
  else
    (some (true, H))
noncomputable def r25 (a0 : Sl) (a1 : Sl) (H : Hp) : Option (Bool × Hp) :=
  if (a0.len : Int) ≠ (a1.len : Int) then
    (some (false, H))
  else
    (r25_l0 FUEL a0 a1 (a0.len : Int) 0 H)
/- 23 congou/congoulaw08.awake -/
def ret23 : Bool → AV := fun r => .bool r
noncomputable def r23 (app : App) (H : Hp) : Option (Bool × Hp) :=
  (r20 app 1 1 H).bind fun p1 =>
  if p1.1.2 = 0 then
    ((r25 p1.1.1 ⟨false, p1.2.n, 0, 2, 2, 0⟩ (p1.2.push (.cells [.int .i64 1, .int .i64 1] false))).bind fun p3 =>
    some (p3.1, p3.2))
  else
    (some (false, p1.2))
/- 108 slices.Index[[]int,int] -/
def ret108 : Int → AV := fun r => .int .i64 r
noncomputable def r108_l0 : Nat → Sl → Int → Int → Int → Hp → Option (Int × Hp)
  | 0, _, _, _, _, _ => none
  | k_ + 1, v1, v2, v3, v4, H => if v4 < v3 then
    (ck ((0 : Int) ≤ v4 ∧ v4 < (v1.len : Int)) (
    (H.ldI .i64 v1.b (v1.o + (v4 : Int).toNat * 1)).bind fun x3 =>
    if v2 = x3 then
      (some (v4, H))
    else
      (r108_l0 k_ v1 v2 v3 (w64 (v4 + 1)) H)))
  else
    (some ((-1), H))
noncomputable def r108 (a0 : Sl) (a1 : Int) (H : Hp) : Option (Int × Hp) :=
  r108_l0 FUEL a0 a1 (a0.len : Int) 0 H
/- 77 slices.Contains[[]int,int] -/
def ret77 : Bool → AV := fun r => .bool r
noncomputable def r77 (a0 : Sl) (a1 : Int) (H : Hp) : Option (Bool × Hp) :=
  (r108 a0 a1 H).bind fun p1 =>
  some ((decide (0 ≤ p1.1)), p1.2)
/- 81 congou/pairs.places -/
def ret81 : Sl × Bool → AV := fun r => .tup [.sl r.1, .bool r.2]
noncomputable def r81_j2 (kt1 : Int → Sl → Sl → Int → Int → Hp → Option ((Sl × Bool) × Hp)) (v1 : Int) (v2 : Sl) (v3 : Sl) (v4 : Int) (v5 : Int) (v6 : Int) (v7 : Bool) (H : Hp) : Option ((Sl × Bool) × Hp) :=
  if v7 = true then
    (some ((⟨true, 0, 0, 0, 0, 0⟩, false), H))
  else
    ((H.apN 1 v3 [.int .i64 v6] 1).bind fun x2 =>
    kt1 v1 v2 x2.1 v4 (w64 (v5 + 1)) x2.2)
noncomputable def r81_l1 : Nat → Int → Sl → Sl → Int → Int → Hp → Option ((Sl × Bool) × Hp)
  | 0, _, _, _, _, _, _ => none
  | k_ + 1, v1, v2, v3, v4, v5, H => if v5 ≤ v4 then
    ((r108 v2 v5 H).bind fun p2 =>
    if p2.1 < 0 then
      (r81_j2 (fun v1_ v2_ v3_ v4_ v5_ H_ => r81_l1 k_ v1_ v2_ v3_ v4_ v5_ H_) v1 v2 v3 v4 v5 p2.1 true p2.2)
    else
      (if (v2.len : Int) ≤ (w64 ((w64 ((w64 (p2.1 + v5)) + v1)) - 1)) then
        (r81_j2 (fun v1_ v2_ v3_ v4_ v5_ H_ => r81_l1 k_ v1_ v2_ v3_ v4_ v5_ H_) v1 v2 v3 v4 v5 p2.1 true p2.2)
      else
        (ck ((0 : Int) ≤ (w64 ((w64 ((w64 (p2.1 + v5)) + v1)) - 1)) ∧ (w64 ((w64 ((w64 (p2.1 + v5)) + v1)) - 1)) < (v2.len : Int)) (
        (p2.2.ldI .i64 v2.b (v2.o + (w64 ((w64 ((w64 (p2.1 + v5)) + v1)) - 1) : Int).toNat * 1)).bind fun x6 =>
        if x6 ≠ v5 then
          (r81_j2 (fun v1_ v2_ v3_ v4_ v5_ H_ => r81_l1 k_ v1_ v2_ v3_ v4_ v5_ H_) v1 v2 v3 v4 v5 p2.1 true p2.2)
        else
          (ck (((0 : Int) ≤ (w64 (p2.1 + 1)) ∧ (w64 (p2.1 + 1)) ≤ (w64 ((w64 ((w64 (p2.1 + v5)) + v1)) - 1)) ∧ (w64 ((w64 ((w64 (p2.1 + v5)) + v1)) - 1)) ≤ (v2.cap : Int)) ∧ (v2.opn = 0 ∨ v2.opn = 1)) (
          (r77 (v2.cut 1 (w64 (p2.1 + 1) : Int).toNat (w64 ((w64 ((w64 (p2.1 + v5)) + v1)) - 1) : Int).toNat) v5 p2.2).bind fun p9 =>
          if p9.1 = true then
            (r81_j2 (fun v1_ v2_ v3_ v4_ v5_ H_ => r81_l1 k_ v1_ v2_ v3_ v4_ v5_ H_) v1 v2 v3 v4 v5 p2.1 true p9.2)
          else
            (ck (((0 : Int) ≤ (w64 ((w64 ((w64 ((w64 (p2.1 + v5)) + v1)) - 1)) + 1)) ∧ (w64 ((w64 ((w64 ((w64 (p2.1 + v5)) + v1)) - 1)) + 1)) ≤ (v2.len : Int) ∧ (v2.len : Int) ≤ (v2.cap : Int)) ∧ (v2.opn = 0 ∨ v2.opn = 1)) (
            (r77 (v2.cut 1 (w64 ((w64 ((w64 ((w64 (p2.1 + v5)) + v1)) - 1)) + 1) : Int).toNat ((v2.len : Int) : Int).toNat) v5 p9.2).bind fun p12 =>
            r81_j2 (fun v1_ v2_ v3_ v4_ v5_ H_ => r81_l1 k_ v1_ v2_ v3_ v4_ v5_ H_) v1 v2 v3 v4 v5 p2.1 p12.1 p12.2))))))))
  else
    (some ((v3, true), H))
noncomputable def r81_j0 (v1 : Int) (v2 : Sl) (v3 : Sl) (v4 : Int) (v5 : Bool) (H : Hp) : Option ((Sl × Bool) × Hp) :=
  if v5 = true then
    (some ((⟨true, 0, 0, 0, 0, 0⟩, false), H))
  else
    (r81_l1 FUEL v1 v2 v3 v4 1 H)
noncomputable def r81 (a0 : Int) (a1 : Sl) (H : Hp) : Option ((Sl × Bool) × Hp) :=
  (r80 a0 H).bind fun p1 =>
  if p1.1 = true then
    (if (w64 (Int.tdiv (a1.len : Int) 2)) < 1 then
      (r81_j0 a0 a1 ⟨true, 0, 0, 0, 0, 0⟩ (w64 (Int.tdiv (a1.len : Int) 2)) true p1.2)
    else
      (if 8 < (w64 (Int.tdiv (a1.len : Int) 2)) then
        (r81_j0 a0 a1 ⟨true, 0, 0, 0, 0, 0⟩ (w64 (Int.tdiv (a1.len : Int) 2)) true p1.2)
      else
        (r81_j0 a0 a1 ⟨true, 0, 0, 0, 0, 0⟩ (w64 (Int.tdiv (a1.len : Int) 2)) (decide ((a1.len : Int) ≠ (w64 (2 * (w64 (Int.tdiv (a1.len : Int) 2)))))) p1.2)))
  else
    (r81_j0 a0 a1 ⟨true, 0, 0, 0, 0, 0⟩ (w64 (Int.tdiv (a1.len : Int) 2)) true p1.2)
/- 30 congou/pairs.IsRow -/
def ret30 : Bool × Int → AV := fun r => .tup [.bool r.1, .int .i64 r.2]
noncomputable def r30_j0 (v1 : Int) (v2 : Sl) (v3 : Bool) (H : Hp) : Option ((Bool × Int) × Hp) :=
  if v3 = true then
    (some ((false, 2), H))
  else
    ((r81 v1 v2 H).bind fun p2 =>
    some ((p2.1.2, 0), p2.2))
noncomputable def r30 (a0 : Int) (a1 : Sl) (H : Hp) : Option ((Bool × Int) × Hp) :=
  (r80 a0 H).bind fun p1 =>
  if p1.1 = true then
    (r30_j0 a0 a1 (decide (16 < (a1.len : Int))) p1.2)
  else
    (r30_j0 a0 a1 true p1.2)
/- 36 slices.Clone[[]int,int] -/
def ret36 : Sl → AV := fun r => .sl r
noncomputable def r36 (a0 : Sl) (H : Hp) : Option (Sl × Hp) :=
  if a0.nil = true then
    (some (⟨true, 0, 0, 0, 0, 0⟩, H))
  else
    (((H.push (.cells [] false)).lds a0.b a0.o (a0.len * 1)).bind fun x2 =>
    ck (x2.all AV.one = true) (
    ((H.push (.cells [] false)).app 1 ⟨false, H.n, 0, 0, 0, 0⟩ x2 a0.len).bind fun x4 =>
    some (x4.1, x4.2)))
/- 31 congou/congoulaw08.list -/
def ret31 : Sl → AV := fun r => .sl r
noncomputable def r31 (a0 : Sl) (H : Hp) : Option (Sl × Hp) :=
  ck (((0 : Int) ≤ 0 ∧ 0 ≤ (if 20 < (a0.len : Int) then 20 else (a0.len : Int)) ∧ (if 20 < (a0.len : Int) then 20 else (a0.len : Int)) ≤ (a0.cap : Int)) ∧ (a0.opn = 0 ∨ a0.opn = 1)) (
  (r36 (a0.cut 1 (0 : Int).toNat ((if 20 < (a0.len : Int) then 20 else (a0.len : Int)) : Int).toNat) H).bind fun p2 =>
  some (p2.1, p2.2))
/- 32 congou/pairs.Places -/
def ret32 : Sl × Int → AV := fun r => .tup [.sl r.1, .int .i64 r.2]
noncomputable def r32 (a0 : Int) (a1 : Sl) (H : Hp) : Option ((Sl × Int) × Hp) :=
  (r81 a0 a1 H).bind fun p1 =>
  if p1.1.2 = true then
    (some ((p1.1.1, 0), p1.2))
  else
    (some ((⟨true, 0, 0, 0, 0, 0⟩, 2), p1.2))
/- 33 congou/congouref08.Shift -/
def ret33 : Bool → AV := fun r => .bool r
noncomputable def r33 (a0 : Int) (H : Hp) : Option (Bool × Hp) :=
  if a0 = 1 then
    (some (true, H))
  else
    (some ((decide (a0 = 2)), H))
/- 78 congou/congouref08.places -/
def ret78 : Sl → AV := fun r => .sl r
noncomputable def r78_l0 : Nat → Int → Sl → Sl → Int → Int → Hp → Option (Sl × Hp)
  | 0, _, _, _, _, _, _ => none
  | k_ + 1, v1, v2, v3, v4, v5, H => if v5 < v4 then
    (ck ((0 : Int) ≤ v5 ∧ v5 < (v3.len : Int)) (
    (H.ldI .i64 v3.b (v3.o + (v5 : Int).toNat * 1)).bind fun x3 =>
    if x3 = v1 then
      ((H.apN 1 v2 [.int .i64 v5] 1).bind fun x5 =>
      r78_l0 k_ v1 x5.1 v3 v4 (w64 (v5 + 1)) x5.2)
    else
      (r78_l0 k_ v1 v2 v3 v4 (w64 (v5 + 1)) H)))
  else
    (some (v2, H))
noncomputable def r78 (a0 : Sl) (a1 : Int) (H : Hp) : Option (Sl × Hp) :=
  r78_l0 FUEL a1 ⟨true, 0, 0, 0, 0, 0⟩ a0 (a0.len : Int) 0 H
/- 34 congou/congouref08.IsRow -/
def ret34 : Bool → AV := fun r => .bool r
noncomputable def r34_j2 (kt1 : Int → Sl → Int → Int → Hp → Option (Bool × Hp)) (v1 : Int) (v2 : Sl) (v3 : Int) (v4 : Int) (v5 : Bool) (H : Hp) : Option (Bool × Hp) :=
  if v5 = true then
    (some (false, H))
  else
    (kt1 v1 v2 v3 (w64 (v4 + 1)) H)
noncomputable def r34_l1 : Nat → Int → Sl → Int → Int → Hp → Option (Bool × Hp)
  | 0, _, _, _, _, _ => none
  | k_ + 1, v1, v2, v3, v4, H => if v4 ≤ v3 then
    ((r78 v2 v4 H).bind fun p2 =>
    if (p2.1.len : Int) ≠ 2 then
      (r34_j2 (fun v1_ v2_ v3_ v4_ H_ => r34_l1 k_ v1_ v2_ v3_ v4_ H_) v1 v2 v3 v4 true p2.2)
    else
      (ck ((0 : Int) ≤ 1 ∧ 1 < (p2.1.len : Int)) (
      (p2.2.ldI .i64 p2.1.b (p2.1.o + (1 : Int).toNat * 1)).bind fun x5 =>
      ck ((0 : Int) ≤ 0 ∧ 0 < (p2.1.len : Int)) (
      (p2.2.ldI .i64 p2.1.b (p2.1.o + (0 : Int).toNat * 1)).bind fun x7 =>
      r34_j2 (fun v1_ v2_ v3_ v4_ H_ => r34_l1 k_ v1_ v2_ v3_ v4_ H_) v1 v2 v3 v4 (decide ((w64 (x5 - x7)) ≠ (w64 ((w64 (v4 + v1)) - 1)))) p2.2))))
  else
    (some (true, H))
noncomputable def r34_j0 (v1 : Int) (v2 : Sl) (v3 : Int) (v4 : Bool) (H : Hp) : Option (Bool × Hp) :=
  if v4 = true then
    (some (false, H))
  else
    (r34_l1 FUEL v1 v2 v3 1 H)
noncomputable def r34 (a0 : Int) (a1 : Sl) (H : Hp) : Option (Bool × Hp) :=
  if (w64 (Int.tdiv (a1.len : Int) 2)) < 1 then
    (r34_j0 a0 a1 (w64 (Int.tdiv (a1.len : Int) 2)) true H)
  else
    (if 8 < (w64 (Int.tdiv (a1.len : Int) 2)) then
      (r34_j0 a0 a1 (w64 (Int.tdiv (a1.len : Int) 2)) true H)
    else
      (r34_j0 a0 a1 (w64 (Int.tdiv (a1.len : Int) 2)) (decide ((a1.len : Int) ≠ (w64 (2 * (w64 (Int.tdiv (a1.len : Int) 2)))))) H))
/- 40 slices.Reverse[[]int,int] -/
def ret40 : Unit → AV := fun _ => .tup []
noncomputable def r40_l0 : Nat → Sl → Int → Int → Hp → Option (Unit × Hp)
  | 0, _, _, _, _ => none
  | k_ + 1, v1, v2, v3, H => if v2 < v3 then
    (ck ((0 : Int) ≤ v3 ∧ v3 < (v1.len : Int)) (
    (H.ldI .i64 v1.b (v1.o + (v3 : Int).toNat * 1)).bind fun x3 =>
    ck ((0 : Int) ≤ v2 ∧ v2 < (v1.len : Int)) (
    (H.ldI .i64 v1.b (v1.o + (v2 : Int).toNat * 1)).bind fun x5 =>
    ck ((0 : Int) ≤ v2 ∧ v2 < (v1.len : Int)) (
    (H.st v1.b (v1.o + (v2 : Int).toNat * 1) (.int .i64 x3)).bind fun H7 =>
    ck ((0 : Int) ≤ v3 ∧ v3 < (v1.len : Int)) (
    (H7.st v1.b (v1.o + (v3 : Int).toNat * 1) (.int .i64 x5)).bind fun H9 =>
    r40_l0 k_ v1 (w64 (v2 + 1)) (w64 (v3 - 1)) H9)))))
  else
    (some ((), H))
noncomputable def r40 (a0 : Sl) (H : Hp) : Option (Unit × Hp) :=
  r40_l0 FUEL a0 0 (w64 ((a0.len : Int) - 1)) H
/- 41 congou/pairs.Turn -/
def ret41 : Sl × Int → AV := fun r => .tup [.sl r.1, .int .i64 r.2]
noncomputable def r41 (a0 : Int) (a1 : Sl) (H : Hp) : Option ((Sl × Int) × Hp) :=
  (r81 a0 a1 H).bind fun p1 =>
  if p1.1.2 = true then
    ((r36 a1 p1.2).bind fun p3 =>
    (r40 p3.1 p3.2).bind fun p4 =>
    some ((p3.1, 0), p4.2))
  else
    (some ((⟨true, 0, 0, 0, 0, 0⟩, 2), p1.2))
/- 109 cmp.isNaN[int] -/
def ret109 : Bool → AV := fun r => .bool r
noncomputable def r109 (a0 : Int) (H : Hp) : Option (Bool × Hp) :=
  some ((decide (a0 ≠ a0)), H)
/- 87 cmp.Compare[int] -/
def ret87 : Int → AV := fun r => .int .i64 r
noncomputable def r87 (a0 : Int) (a1 : Int) (H : Hp) : Option (Int × Hp) :=
  (r109 a0 H).bind fun p1 =>
  (r109 a1 p1.2).bind fun p2 =>
  if p1.1 = true then
    (if p2.1 = true then
      (some (0, p2.2))
    else
      (some ((-1), p2.2)))
  else
    (if p2.1 = true then
      (some (1, p2.2))
    else
      (if a0 < a1 then
        (some ((-1), p2.2))
      else
        (if a1 < a0 then
          (some (1, p2.2))
        else
          (some (0, p2.2)))))
/- 50 slices.Compare[[]int,int] -/
def ret50 : Int → AV := fun r => .int .i64 r
noncomputable def r50_l0 : Nat → Sl → Sl → Sl → Int → Int → Hp → Option (Int × Hp)
  | 0, _, _, _, _, _, _ => none
  | k_ + 1, v1, v2, v3, v4, v5, H => if v5 < v4 then
    (ck ((0 : Int) ≤ v5 ∧ v5 < (v3.len : Int)) (
    (H.ldI .i64 v3.b (v3.o + (v5 : Int).toNat * 1)).bind fun x3 =>
    if (v2.len : Int) ≤ v5 then
      (some (1, H))
    else
      (ck ((0 : Int) ≤ v5 ∧ v5 < (v2.len : Int)) (
      (H.ldI .i64 v2.b (v2.o + (v5 : Int).toNat * 1)).bind fun x6 =>
      (r87 x3 x6 H).bind fun p7 =>
      if p7.1 ≠ 0 then
        (some (p7.1, p7.2))
      else
        (r50_l0 k_ v1 v2 v3 v4 (w64 (v5 + 1)) p7.2)))))
  else
    (if (v1.len : Int) < (v2.len : Int) then
      (some ((-1), H))
    else
      (some (0, H)))
noncomputable def r50 (a0 : Sl) (a1 : Sl) (H : Hp) : Option (Int × Hp) :=
  r50_l0 FUEL a0 a1 a0 (a0.len : Int) 0 H
/- 11 congou/congoulaw08.PairsTurned -/
def ret11 : Bool → AV := fun r => .bool r
noncomputable def r11_j4 (app : App) (kt3 : Int → Sl → Sl → Int → Int → Hp → Option (Bool × Hp)) (v1 : Int) (v2 : Sl) (v3 : Sl) (v4 : Int) (v5 : Int) (v6 : Bool) (H : Hp) : Option (Bool × Hp) :=
  if v6 = true then
    (some (false, H))
  else
    (kt3 v1 v2 v3 v4 (w64 (v5 + 1)) H)
noncomputable def r11_l3 (app : App) : Nat → Int → Sl → Sl → Int → Int → Hp → Option (Bool × Hp)
  | 0, _, _, _, _, _, _ => none
  | k_ + 1, v1, v2, v3, v4, v5, H => if v5 < v4 then
    (ck ((0 : Int) ≤ v5 ∧ v5 < (v3.len : Int)) (
    (H.ldI .i64 v3.b (v3.o + (v5 : Int).toNat * 1)).bind fun x3 =>
    if x3 < 0 then
      (r11_j4 app (fun v1_ v2_ v3_ v4_ v5_ H_ => r11_l3 app k_ v1_ v2_ v3_ v4_ v5_ H_) v1 v2 v3 v4 v5 true H)
    else
      (if (v2.len : Int) ≤ (w64 ((w64 (x3 + v5)) + v1)) then
        (r11_j4 app (fun v1_ v2_ v3_ v4_ v5_ H_ => r11_l3 app k_ v1_ v2_ v3_ v4_ v5_ H_) v1 v2 v3 v4 v5 true H)
      else
        (ck ((0 : Int) ≤ x3 ∧ x3 < (v2.len : Int)) (
        (H.ldI .i64 v2.b (v2.o + (x3 : Int).toNat * 1)).bind fun x7 =>
        if x7 ≠ (w64 (v5 + 1)) then
          (r11_j4 app (fun v1_ v2_ v3_ v4_ v5_ H_ => r11_l3 app k_ v1_ v2_ v3_ v4_ v5_ H_) v1 v2 v3 v4 v5 true H)
        else
          (ck ((0 : Int) ≤ (w64 ((w64 (x3 + v5)) + v1)) ∧ (w64 ((w64 (x3 + v5)) + v1)) < (v2.len : Int)) (
          (H.ldI .i64 v2.b (v2.o + (w64 ((w64 (x3 + v5)) + v1) : Int).toNat * 1)).bind fun x10 =>
          r11_j4 app (fun v1_ v2_ v3_ v4_ v5_ H_ => r11_l3 app k_ v1_ v2_ v3_ v4_ v5_ H_) v1 v2 v3 v4 v5 (decide (x10 ≠ (w64 (v5 + 1)))) H)))))))
  else
    ((r23 app H).bind fun p11 =>
    some (p11.1, p11.2))
noncomputable def r11_j2 (app : App) (v1 : Int) (v2 : Sl) (v3 : Sl) (v4 : Bool) (H : Hp) : Option (Bool × Hp) :=
  if v4 = true then
    (some (false, H))
  else
    (r11_l3 app FUEL v1 v2 v3 (v3.len : Int) 0 H)
noncomputable def r11_j1 (app : App) (v1 : Int) (v2 : Sl) (v3 : Sl) (v4 : Bool) (H : Hp) : Option (Bool × Hp) :=
  if v4 = true then
    (some (false, H))
  else
    ((r36 v3 H).bind fun p2 =>
    (r30 v1 p2.1 p2.2).bind fun p3 =>
    (r36 v3 p3.2).bind fun p4 =>
    (r41 v1 p4.1 p4.2).bind fun p5 =>
    (r20 app (w64 (Int.tdiv (v2.len : Int) 2)) v1 p5.2).bind fun p6 =>
    (r31 v2 p6.2).bind fun p7 =>
    (r32 v1 p7.1 p7.2).bind fun p8 =>
    if p3.1.1 = true then
      (if p3.1.2 ≠ 0 then
        (r11_j2 app v1 v2 p8.1.1 true p8.2)
      else
        (if p5.1.2 ≠ 0 then
          (r11_j2 app v1 v2 p8.1.1 true p8.2)
        else
          (if p6.1.2 ≠ 0 then
            (r11_j2 app v1 v2 p8.1.1 true p8.2)
          else
            (if p8.1.2 ≠ 0 then
              (r11_j2 app v1 v2 p8.1.1 true p8.2)
            else
              ((r25 p5.1.1 v2 p8.2).bind fun p14 =>
              if p14.1 = true then
                ((r50 p6.1.1 v2 p14.2).bind fun p16 =>
                if 0 < p16.1 then
                  (r11_j2 app v1 v2 p8.1.1 true p16.2)
                else
                  ((r50 p6.1.1 v3 p16.2).bind fun p18 =>
                  if 0 < p18.1 then
                    (r11_j2 app v1 v2 p8.1.1 true p18.2)
                  else
                    (r11_j2 app v1 v2 p8.1.1 (decide ((p8.1.1.len : Int) ≠ (w64 (Int.tdiv (v2.len : Int) 2)))) p18.2)))
              else
                (r11_j2 app v1 v2 p8.1.1 true p14.2))))))
    else
      (r11_j2 app v1 v2 p8.1.1 true p8.2))
noncomputable def r11_j0 (app : App) (v1 : Int) (v2 : Sl) (v3 : Sl) (v4 : Int) (v5 : Int) (v6 : Bool) (H : Hp) : Option (Bool × Hp) :=
  if v6 = true then
    (if v4 = 2 then
      (if v5 = 0 then
        ((r23 app H).bind fun p4 =>
        some (p4.1, p4.2))
      else
        (if v5 = 2 then
          ((r23 app H).bind fun p6 =>
          some (p6.1, p6.2))
        else
          (some (false, H))))
    else
      (some (false, H)))
  else
    (if v4 ≠ 0 then
      (r11_j1 app v1 v2 v3 true H)
    else
      ((r34 v1 v2 H).bind fun p8 =>
      if p8.1 = true then
        ((r33 v1 p8.2).bind fun p10 =>
        r11_j1 app v1 v2 v3 (!p10.1) p10.2)
      else
        (r11_j1 app v1 v2 v3 true p8.2)))
noncomputable def r11 (app : App) (a0 : Int) (a1 : Sl) (H : Hp) : Option (Bool × Hp) :=
  (r31 a1 H).bind fun p1 =>
  (r41 a0 p1.1 p1.2).bind fun p2 =>
  (r31 a1 p2.2).bind fun p3 =>
  (r30 a0 p3.1 p3.2).bind fun p4 =>
  if p4.1.2 ≠ 0 then
    (r11_j0 app a0 a1 p2.1.1 p2.1.2 p4.1.2 true p4.2)
  else
    (r11_j0 app a0 a1 p2.1.1 p2.1.2 p4.1.2 (!p4.1.1) p4.2)
/- 74 congou/pairs.First$1 -/
def ret74 : Bool → AV := fun r => .bool r
noncomputable def r74 (a0 : Sl) (c0 : Nat) (H : Hp) : Option (Bool × Hp) :=
  (r36 a0 H).bind fun p1 =>
  (p1.2.st c0 0 (.sl p1.1)).bind fun H2 =>
  some (false, H2)
/- 107 congou/pairs.rows$1 -/
def ret107 : Bool → AV := fun r => .bool r
noncomputable def r107_j1 (app : App) (kt0 : Int → Nat → Nat → Nat → Nat → Int → Int → Hp → Option (Bool × Hp)) (v1 : Int) (v2 : Nat) (v3 : Nat) (v4 : Nat) (v5 : Nat) (v6 : Int) (v7 : Int) (v8 : Int) (v9 : Bool) (H : Hp) : Option (Bool × Hp) :=
  if v9 = true then
    (kt0 v1 v2 v3 v4 v5 v6 (w64 (v7 + 1)) H)
  else
    ((H.ldSl v2 0).bind fun x2 =>
    (H.ldSl v2 0).bind fun x3 =>
    ck ((0 : Int) ≤ v6 ∧ v6 < (x2.len : Int)) (
    (H.st x2.b (x2.o + (v6 : Int).toNat * 1) (.int .i64 v7)).bind fun H5 =>
    ck ((0 : Int) ≤ v8 ∧ v8 < (x3.len : Int)) (
    (H5.st x3.b (x3.o + (v8 : Int).toNat * 1) (.int .i64 v7)).bind fun H7 =>
    ck (H5.ldSl v2 0 = some x3) (
    ck (H7.ldSl v2 0 = some x3) (
    (H7.ldV v5 0).bind fun x10 =>
    ck (¬ v7 < 0) (
    (callv app x10 [.int .i64 (bitsOf .or .i64 v1 (shlOf .i64 1 v7))] H7).bind fun p12 =>
    (p12.1.asB).bind fun x13 =>
    (p12.2.ldSl v2 0).bind fun x14 =>
    (p12.2.ldSl v2 0).bind fun x15 =>
    ck ((0 : Int) ≤ v6 ∧ v6 < (x14.len : Int)) (
    (p12.2.st x14.b (x14.o + (v6 : Int).toNat * 1) (.int .i64 0)).bind fun H17 =>
    ck ((0 : Int) ≤ v8 ∧ v8 < (x15.len : Int)) (
    (H17.st x15.b (x15.o + (v8 : Int).toNat * 1) (.int .i64 0)).bind fun H19 =>
    ck (H17.ldSl v2 0 = some x15) (
    ck (H19.ldSl v2 0 = some x15) (
    if x13 = true then
      (kt0 v1 v2 v3 v4 v5 v6 (w64 (v7 + 1)) H19)
    else
      (some (false, H19))))))))))))
noncomputable def r107_l0 (app : App) : Nat → Int → Nat → Nat → Nat → Nat → Int → Int → Hp → Option (Bool × Hp)
  | 0, _, _, _, _, _, _, _, _ => none
  | k_ + 1, v1, v2, v3, v4, v5, v6, v7, H => (H.ldI .i64 v3 0).bind fun x1 =>
  if v7 ≤ x1 then
    ((H.ldI .i64 v4 0).bind fun x3 =>
    ck (¬ v7 < 0) (
    if (bitsOf .and .i64 (shrOf .i64 v1 v7) 1) = 1 then
      (r107_j1 app (fun v1_ v2_ v3_ v4_ v5_ v6_ v7_ H_ => r107_l0 app k_ v1_ v2_ v3_ v4_ v5_ v6_ v7_ H_) v1 v2 v3 v4 v5 v6 v7 (w64 ((w64 ((w64 (v6 + v7)) + x3)) - 1)) true H)
    else
      ((H.ldSl v2 0).bind fun x6 =>
      if (x6.len : Int) ≤ (w64 ((w64 ((w64 (v6 + v7)) + x3)) - 1)) then
        (r107_j1 app (fun v1_ v2_ v3_ v4_ v5_ v6_ v7_ H_ => r107_l0 app k_ v1_ v2_ v3_ v4_ v5_ v6_ v7_ H_) v1 v2 v3 v4 v5 v6 v7 (w64 ((w64 ((w64 (v6 + v7)) + x3)) - 1)) true H)
      else
        ((H.ldSl v2 0).bind fun x8 =>
        ck ((0 : Int) ≤ (w64 ((w64 ((w64 (v6 + v7)) + x3)) - 1)) ∧ (w64 ((w64 ((w64 (v6 + v7)) + x3)) - 1)) < (x8.len : Int)) (
        (H.ldI .i64 x8.b (x8.o + (w64 ((w64 ((w64 (v6 + v7)) + x3)) - 1) : Int).toNat * 1)).bind fun x10 =>
        r107_j1 app (fun v1_ v2_ v3_ v4_ v5_ v6_ v7_ H_ => r107_l0 app k_ v1_ v2_ v3_ v4_ v5_ v6_ v7_ H_) v1 v2 v3 v4 v5 v6 v7 (w64 ((w64 ((w64 (v6 + v7)) + x3)) - 1)) (decide (x10 ≠ 0)) H)))))
  else
    (some (true, H))
noncomputable def r107 (app : App) (a0 : Int) (c0 : Nat) (c1 : Nat) (c2 : Nat) (c3 : Nat) (c4 : Nat) (H : Hp) : Option (Bool × Hp) :=
  (H.ldSl c0 0).bind fun x1 =>
  (r108 x1 0 H).bind fun p2 =>
  if p2.1 < 0 then
    ((p2.2.ldV c1 0).bind fun x4 =>
    (p2.2.ldSl c0 0).bind fun x5 =>
    (callv app x4 [.sl x5] p2.2).bind fun p6 =>
    (p6.1.asB).bind fun x7 =>
    some (x7, p6.2))
  else
    (r107_l0 app FUEL a0 c0 c2 c3 c4 p2.1 1 p2.2)
end Go.Lt.P8
