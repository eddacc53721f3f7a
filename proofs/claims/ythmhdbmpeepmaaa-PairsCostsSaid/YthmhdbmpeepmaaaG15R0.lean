/- PRINTED BY A PROGRAM OF OURS: what each function that 'PairsCosts' reaches computes on the abstract heap, and that the translated code does just that. Nothing is asked of the input. -/
import Derived.Test.YthmhdbmpeepmaaaG15T
set_option linter.unusedVariables false
set_option linter.unusedSimpArgs false
set_option maxRecDepth 100000
set_option maxHeartbeats 4000000
namespace Go.Lt.P8
open Go Go.Lt Go.Proofs
/- 80 congou/pairs.isShift -/
def ret80 : Bool → AV := fun r => .bool r
noncomputable def r80 (a0 : Int) (H : Hp) : Option (Bool × Hp) :=
  if a0 = 1 then
    (some (true, H))
  else
    (some ((decide (a0 = 2)), H))
/- 72 congou/pairs.isRows -/
def ret72 : Bool → AV := fun r => .bool r
noncomputable def r72 (a0 : Int) (a1 : Int) (H : Hp) : Option (Bool × Hp) :=
  if 1 ≤ a0 then
    (if a0 ≤ 8 then
      ((r80 a1 H).bind fun p3 =>
      some (p3.1, p3.2))
    else
      (some (false, H)))
  else
    (some (false, H))
/- 73 congou/pairs.rows -/
def ret73 : Unit → AV := fun _ => .tup []
noncomputable def r73 (app : App) (a0 : Int) (a1 : Int) (a2 : AV) (H : Hp) : Option (Unit × Hp) :=
  ck (AV.one a2 = true) (
  lt (((H.push (.cells [.int .i64 a0] false)).push (.cells [.int .i64 a1] false)).push (.cells [a2] false)) fun H2 =>
  (H2.ldI .i64 H.n 0).bind fun x3 =>
  ck ((0 : Int) ≤ (w64 (2 * x3)) ∧ (w64 (2 * x3)) ≤ (w64 (2 * x3)) ∧ (w64 (2 * x3)) ≤ 4294967296) (
  (((H2.push (.cells (zerosA [.int .i64 0] ((w64 (2 * x3) : Int).toNat * 1)) false)).push (.cells [.sl ⟨true, 0, 0, 0, 0, 0⟩] false)).st ((H2.push (.cells (zerosA [.int .i64 0] ((w64 (2 * x3) : Int).toNat * 1)) false)).n) 0 (.sl ⟨false, H2.n, 0, (w64 (2 * x3) : Int).toNat, (w64 (2 * x3) : Int).toNat, 0⟩)).bind fun H5 =>
  lt (H5.push (.cells [.nilfn] false)) fun H6 =>
  (H6.st H5.n 0 (.fn 107 [] [.ptr ((H2.push (.cells (zerosA [.int .i64 0] ((w64 (2 * x3) : Int).toNat * 1)) false)).n) 0, .ptr (((H.push (.cells [.int .i64 a0] false)).push (.cells [.int .i64 a1] false)).n) 0, .ptr H.n 0, .ptr ((H.push (.cells [.int .i64 a0] false)).n) 0, .ptr H5.n 0])).bind fun H7 =>
  (H7.ldV H5.n 0).bind fun x8 =>
  (callv app x8 [.int .i64 0] H7).bind fun p9 =>
  (p9.1.asB).bind fun x10 =>
  some ((), p9.2)))
/- 20 congou/pairs.First -/
def ret20 : Sl × Int → AV := fun r => .tup [.sl r.1, .int .i64 r.2]
noncomputable def r20 (app : App) (a0 : Int) (a1 : Int) (H : Hp) : Option ((Sl × Int) × Hp) :=
  (r72 a0 a1 H).bind fun p1 =>
  if p1.1 = true then
    (lt (p1.2.push (.cells [.sl ⟨true, 0, 0, 0, 0, 0⟩] false)) fun H3 =>
    (r73 app a0 a1 (.fn 74 [] [.ptr p1.2.n 0]) H3).bind fun p4 =>
    (p4.2.ldSl p1.2.n 0).bind fun x5 =>
    if x5.nil = true then
      (some ((⟨true, 0, 0, 0, 0, 0⟩, 4), p4.2))
    else
      ((p4.2.ldSl p1.2.n 0).bind fun x7 =>
      some ((x7, 0), p4.2)))
  else
    (some ((⟨true, 0, 0, 0, 0, 0⟩, 2), p1.2))
/- 25 slices.Equal[[]int,int] -/
def ret25 : Bool → AV := fun r => .bool r
noncomputable def r25_l0 : Nat → Sl → Sl → Int → Int → Hp → Option (Bool × Hp)
  | 0, _, _, _, _, _ => none
  | k_ + 1, v1, v2, v3, v4, H => if v4 < v3 then
    (ck ((0 : Int) ≤ v4 ∧ v4 < (v1.len : Int)) (
    (H.ldI .i64 v1.b (v1.o + (v4 : Int).toNat * 1)).bind fun x3 =>
    ck ((0 : Int) ≤ v4 ∧ v4 < (v2.len : Int)) (
    (H.ldI .i64 v2.b (v2.o + (v4 : Int).toNat * 1)).bind fun x5 =>
    if x3 ≠ x5 then
      (some (false, H))
    else
      (r25_l0 k_ v1 v2 v3 (w64 (v4 + 1)) H))))
  else
    (some (true, H))
noncomputable def r25 (a0 : Sl) (a1 : Sl) (H : Hp) : Option (Bool × Hp) :=
  if (a0.len : Int) ≠ (a1.len : Int) then
    (some (false, H))
  else
    (r25_l0 FUEL a0 a1 (a0.len : Int) 0 H)
/- 23 congou/congoulaw08.awake -/
def ret23 : Bool → AV := fun r => .bool r
noncomputable def r23 (app : App) (H : Hp) : Option (Bool × Hp) :=
  (r20 app 1 1 H).bind fun p1 =>
  if p1.1.2 = 0 then
    ((r25 p1.1.1 ⟨false, p1.2.n, 0, 2, 2, 0⟩ (p1.2.push (.cells [.int .i64 1, .int .i64 1] false))).bind fun p3 =>
    some (p3.1, p3.2))
  else
    (some (false, p1.2))
/- 108 slices.Index[[]int,int] -/
def ret108 : Int → AV := fun r => .int .i64 r
noncomputable def r108_l0 : Nat → Sl → Int → Int → Int → Hp → Option (Int × Hp)
  | 0, _, _, _, _, _ => none
  | k_ + 1, v1, v2, v3, v4, H => if v4 < v3 then
    (ck ((0 : Int) ≤ v4 ∧ v4 < (v1.len : Int)) (
    (H.ldI .i64 v1.b (v1.o + (v4 : Int).toNat * 1)).bind fun x3 =>
    if v2 = x3 then
      (some (v4, H))
    else
      (r108_l0 k_ v1 v2 v3 (w64 (v4 + 1)) H)))
  else
    (some ((-1), H))
noncomputable def r108 (a0 : Sl) (a1 : Int) (H : Hp) : Option (Int × Hp) :=
  r108_l0 FUEL a0 a1 (a0.len : Int) 0 H
/- 77 slices.Contains[[]int,int] -/
def ret77 : Bool → AV := fun r => .bool r
noncomputable def r77 (a0 : Sl) (a1 : Int) (H : Hp) : Option (Bool × Hp) :=
  (r108 a0 a1 H).bind fun p1 =>
  some ((decide (0 ≤ p1.1)), p1.2)
/- 27 congou/pairs.Welch -/
def ret27 : Sl × Int → AV := fun r => .tup [.sl r.1, .int .i64 r.2]
noncomputable def r27_l1 : Nat → Int → Int → Sl → Int → Int → Int → Hp → Option ((Sl × Int) × Hp)
  | 0, _, _, _, _, _, _, _ => none
  | k_ + 1, v1, v2, v3, v4, v5, v6, H => if v6 < v5 then
    (ck (v1 ≠ 0) (
    (r77 v3 (w64 ((Int.tmod (w64 (v4 * v2)) v1) - 1)) H).bind fun p3 =>
    if p3.1 = true then
      (some ((⟨true, 0, 0, 0, 0, 0⟩, 2), p3.2))
    else
      ((p3.2.apN 1 v3 [.int .i64 (w64 ((Int.tmod (w64 (v4 * v2)) v1) - 1))] 1).bind fun x5 =>
      r27_l1 k_ v1 v2 x5.1 (Int.tmod (w64 (v4 * v2)) v1) v5 (w64 (v6 + 1)) x5.2)))
  else
    (some ((v3, 0), H))
noncomputable def r27_j0 (v1 : Int) (v2 : Int) (v3 : Bool) (H : Hp) : Option ((Sl × Int) × Hp) :=
  if v3 = true then
    (some ((⟨true, 0, 0, 0, 0, 0⟩, 2), H))
  else
    (r27_l1 FUEL v1 v2 ⟨true, 0, 0, 0, 0, 0⟩ 1 (w64 (v1 - 1)) 0 H)
noncomputable def r27 (a0 : Int) (a1 : Int) (H : Hp) : Option ((Sl × Int) × Hp) :=
  (r77 ⟨false, H.n, 0, 4, 4, 0⟩ a0 (H.push (.cells [.int .i64 2, .int .i64 3, .int .i64 5, .int .i64 7] false))).bind fun p1 =>
  if p1.1 = true then
    (if a1 < 1 then
      (r27_j0 a0 a1 true p1.2)
    else
      (r27_j0 a0 a1 (decide (a0 ≤ a1)) p1.2))
  else
    (r27_j0 a0 a1 true p1.2)
/- 36 slices.Clone[[]int,int] -/
def ret36 : Sl → AV := fun r => .sl r
noncomputable def r36 (a0 : Sl) (H : Hp) : Option (Sl × Hp) :=
  if a0.nil = true then
    (some (⟨true, 0, 0, 0, 0, 0⟩, H))
  else
    (((H.push (.cells [] false)).lds a0.b a0.o (a0.len * 1)).bind fun x2 =>
    ck (x2.all AV.one = true) (
    ((H.push (.cells [] false)).app 1 ⟨false, H.n, 0, 0, 0, 0⟩ x2 a0.len).bind fun x4 =>
    some (x4.1, x4.2)))
/- 31 congou/congoulaw08.list -/
def ret31 : Sl → AV := fun r => .sl r
noncomputable def r31 (a0 : Sl) (H : Hp) : Option (Sl × Hp) :=
  ck (((0 : Int) ≤ 0 ∧ 0 ≤ (if 20 < (a0.len : Int) then 20 else (a0.len : Int)) ∧ (if 20 < (a0.len : Int) then 20 else (a0.len : Int)) ≤ (a0.cap : Int)) ∧ (a0.opn = 0 ∨ a0.opn = 1)) (
  (r36 (a0.cut 1 (0 : Int).toNat ((if 20 < (a0.len : Int) then 20 else (a0.len : Int)) : Int).toNat) H).bind fun p2 =>
  some (p2.1, p2.2))
/- 82 congou/pairs.arePins -/
def ret82 : Bool → AV := fun r => .bool r
noncomputable def r82_j3 (kt2 : Sl → Nat → Int → Int → Sl → Int → Int → Sl → Int → Int → Hp → Option (Bool × Hp)) (v1 : Sl) (v2 : Nat) (v3 : Int) (v4 : Int) (v5 : Nat) (v6 : Sl) (v7 : Int) (v8 : Int) (v9 : Sl) (v10 : Int) (v11 : Int) (v12 : Bool) (H : Hp) : Option (Bool × Hp) :=
  if v12 = true then
    (some (false, H))
  else
    ((H.ldI .i64 v5 0).bind fun x2 =>
    (H.ldI .i64 v5 (0 + 1)).bind fun x3 =>
    (H.msetT (.arr 2 .i64) v2 (.agg [.int .i64 x2, .int .i64 x3]) (.bool true)).bind fun H4 =>
    kt2 v1 v2 v3 v4 v6 v7 v8 v9 v10 (w64 (v11 + 1)) H4)
noncomputable def r82_l2 (kt0 : Sl → Nat → Sl → Int → Int → Hp → Option (Bool × Hp)) : Nat → Sl → Nat → Int → Int → Sl → Int → Int → Sl → Int → Int → Hp → Option (Bool × Hp)
  | 0, _, _, _, _, _, _, _, _, _, _, _ => none
  | k_ + 1, v1, v2, v3, v4, v5, v6, v7, v8, v9, v10, H => if v10 < v9 then
    (ck ((0 : Int) ≤ v10 ∧ v10 < (v8.len : Int)) (
    (H.ldI .i64 v8.b (v8.o + (v10 : Int).toNat * 1)).bind fun x3 =>
    ((H.push (.cells [.int .i64 0, .int .i64 0] false)).sts H.n 0 [.int .i64 (w64 (v3 - v10)), .int .i64 (w64 (v4 - x3))]).bind fun H4 =>
    if v4 = x3 then
      (r82_j3 (fun v1_ v2_ v3_ v4_ v5_ v6_ v7_ v8_ v9_ v10_ H_ => r82_l2 kt0 k_ v1_ v2_ v3_ v4_ v5_ v6_ v7_ v8_ v9_ v10_ H_) v1 v2 v3 v4 H.n v5 v6 v7 v8 v9 v10 true H4)
    else
      ((H4.ldI .i64 H.n 0).bind fun x6 =>
      (H4.ldI .i64 H.n (0 + 1)).bind fun x7 =>
      (H4.mgetT (.arr 2 .i64) v2 (.agg [.int .i64 x6, .int .i64 x7])).bind fun x8 =>
      ((x8.getD (.bool false)).asB).bind fun x9 =>
      r82_j3 (fun v1_ v2_ v3_ v4_ v5_ v6_ v7_ v8_ v9_ v10_ H_ => r82_l2 kt0 k_ v1_ v2_ v3_ v4_ v5_ v6_ v7_ v8_ v9_ v10_ H_) v1 v2 v3 v4 H.n v5 v6 v7 v8 v9 v10 x9 H4)))
  else
    (kt0 v1 v2 v5 v6 (w64 (v7 + 1)) H)
noncomputable def r82_j1 (kt0 : Sl → Nat → Sl → Int → Int → Hp → Option (Bool × Hp)) (v1 : Sl) (v2 : Nat) (v3 : Int) (v4 : Int) (v5 : Sl) (v6 : Int) (v7 : Int) (v8 : Bool) (H : Hp) : Option (Bool × Hp) :=
  if v8 = true then
    (some (false, H))
  else
    (ck (((0 : Int) ≤ 0 ∧ 0 ≤ v3 ∧ v3 ≤ (v1.cap : Int)) ∧ (v1.opn = 0 ∨ v1.opn = 1)) (
    r82_l2 kt0 FUEL v1 v2 v3 v4 v5 v6 v7 (v1.cut 1 (0 : Int).toNat (v3 : Int).toNat) ((v1.cut 1 (0 : Int).toNat (v3 : Int).toNat).len : Int) 0 H))
noncomputable def r82_l0 : Nat → Sl → Nat → Sl → Int → Int → Hp → Option (Bool × Hp)
  | 0, _, _, _, _, _, _ => none
  | k_ + 1, v1, v2, v3, v4, v5, H => if v5 < v4 then
    (ck ((0 : Int) ≤ v5 ∧ v5 < (v3.len : Int)) (
    (H.ldI .i64 v3.b (v3.o + (v5 : Int).toNat * 1)).bind fun x3 =>
    if x3 < 0 then
      (r82_j1 (fun v1_ v2_ v3_ v4_ v5_ H_ => r82_l0 k_ v1_ v2_ v3_ v4_ v5_ H_) v1 v2 v5 x3 v3 v4 v5 true H)
    else
      (r82_j1 (fun v1_ v2_ v3_ v4_ v5_ H_ => r82_l0 k_ v1_ v2_ v3_ v4_ v5_ H_) v1 v2 v5 x3 v3 v4 v5 (decide ((v1.len : Int) ≤ x3)) H)))
  else
    (some (true, H))
noncomputable def r82 (a0 : Sl) (H : Hp) : Option (Bool × Hp) :=
  lt (H.push (.map (.arr 2 .i64) [])) fun H1 =>
  r82_l0 FUEL a0 H.n a0 (a0.len : Int) 0 H1
/- 38 congou/pairs.IsPins -/
def ret38 : Bool × Int → AV := fun r => .tup [.bool r.1, .int .i64 r.2]
noncomputable def r38_j0 (v1 : Sl) (v2 : Bool) (H : Hp) : Option ((Bool × Int) × Hp) :=
  if v2 = true then
    (some ((false, 2), H))
  else
    ((r82 v1 H).bind fun p2 =>
    some ((p2.1, 0), p2.2))
noncomputable def r38 (a0 : Sl) (H : Hp) : Option ((Bool × Int) × Hp) :=
  if (a0.len : Int) < 1 then
    (r38_j0 a0 true H)
  else
    (r38_j0 a0 (decide (6 < (a0.len : Int))) H)
/- 99 slices.IndexFunc[[][]int,[]int] -/
def ret99 : Int → AV := fun r => .int .i64 r
noncomputable def r99_l0 (app : App) : Nat → Sl → AV → Int → Int → Hp → Option (Int × Hp)
  | 0, _, _, _, _, _ => none
  | k_ + 1, v1, v2, v3, v4, H => if v4 < v3 then
    (ck ((0 : Int) ≤ v4 ∧ v4 < (v1.len : Int)) (
    (H.ldSl v1.b (v1.o + (v4 : Int).toNat * 1)).bind fun x3 =>
    (callv app v2 [.sl x3] H).bind fun p4 =>
    (p4.1.asB).bind fun x5 =>
    if x5 = true then
      (some (v4, p4.2))
    else
      (r99_l0 app k_ v1 v2 v3 (w64 (v4 + 1)) p4.2)))
  else
    (some ((-1), H))
noncomputable def r99 (app : App) (a0 : Sl) (a1 : AV) (H : Hp) : Option (Int × Hp) :=
  r99_l0 app FUEL a0 a1 (a0.len : Int) 0 H
/- 83 slices.DeleteFunc[[][]int,[]int] -/
def ret83 : Sl → AV := fun r => .sl r
noncomputable def r83_l0 (app : App) : Nat → Sl → AV → Int → Int → Hp → Option (Sl × Hp)
  | 0, _, _, _, _, _ => none
  | k_ + 1, v1, v2, v3, v4, H => if v4 < (v1.len : Int) then
    (ck ((0 : Int) ≤ v4 ∧ v4 < (v1.len : Int)) (
    (H.ldSl v1.b (v1.o + (v4 : Int).toNat * 1)).bind fun x3 =>
    (callv app v2 [.sl x3] H).bind fun p4 =>
    (p4.1.asB).bind fun x5 =>
    if x5 = true then
      (r83_l0 app k_ v1 v2 v3 (w64 (v4 + 1)) p4.2)
    else
      (ck ((0 : Int) ≤ v3 ∧ v3 < (v1.len : Int)) (
      (p4.2.st v1.b (v1.o + (v3 : Int).toNat * 1) (.sl x3)).bind fun H8 =>
      r83_l0 app k_ v1 v2 (w64 (v3 + 1)) (w64 (v4 + 1)) H8))))
  else
    (ck (((0 : Int) ≤ v3 ∧ v3 ≤ (v1.len : Int) ∧ (v1.len : Int) ≤ (v1.cap : Int)) ∧ (v1.opn = 0 ∨ v1.opn = 1)) (
    (H.sts (v1.cut 1 (v3 : Int).toNat ((v1.len : Int) : Int).toNat).b (v1.cut 1 (v3 : Int).toNat ((v1.len : Int) : Int).toNat).o (zerosA [.sl ⟨true, 0, 0, 0, 0, 0⟩] ((v1.cut 1 (v3 : Int).toNat ((v1.len : Int) : Int).toNat).len * 1))).bind fun H10 =>
    ck (((0 : Int) ≤ 0 ∧ 0 ≤ v3 ∧ v3 ≤ (v1.cap : Int)) ∧ (v1.opn = 0 ∨ v1.opn = 1)) (
    some (v1.cut 1 (0 : Int).toNat (v3 : Int).toNat, H10))))
noncomputable def r83 (app : App) (a0 : Sl) (a1 : AV) (H : Hp) : Option (Sl × Hp) :=
  (r99 app a0 a1 H).bind fun p1 =>
  if p1.1 = (-1) then
    (some (a0, p1.2))
  else
    (r83_l0 app FUEL a0 a1 p1.1 (w64 (p1.1 + 1)) p1.2)
/- 84 congou/pairs.Pins$1 -/
def ret84 : Bool → AV := fun r => .bool r
noncomputable def r84 (a0 : Sl) (H : Hp) : Option (Bool × Hp) :=
  (r82 a0 H).bind fun p1 =>
  some ((!p1.1), p1.2)
/- 47 congou/pairs.Pins -/
def ret47 : Sl × Int → AV := fun r => .tup [.sl r.1, .int .i64 r.2]
noncomputable def r47_l3 (app : App) (kt2 : Int → Sl → Int → Int → Sl → Int → Int → Hp → Option ((Sl × Int) × Hp)) : Nat → Int → Sl → Sl → Int → Int → Sl → Int → Int → Int → Int → Hp → Option ((Sl × Int) × Hp)
  | 0, _, _, _, _, _, _, _, _, _, _, _ => none
  | k_ + 1, v1, v2, v3, v4, v5, v6, v7, v8, v9, v10, H => if v10 < v9 then
    ((r77 v3 v10 H).bind fun p2 =>
    if p2.1 = true then
      (r47_l3 app kt2 k_ v1 v2 v3 v4 v5 v6 v7 v8 v9 (w64 (v10 + 1)) p2.2)
    else
      (ck ((0 : Int) ≤ 0 ∧ 0 ≤ (v3.len : Int) ∧ (v3.len : Int) ≤ (v3.len : Int) ∧ (v3.len : Int) ≤ (v3.cap : Int)) (
      (p2.2.apN 1 (v3.cut3 1 (0 : Int).toNat ((v3.len : Int) : Int).toNat ((v3.len : Int) : Int).toNat) [.int .i64 v10] 1).bind fun x5 =>
      (x5.2.apN 1 v2 [.sl x5.1] 1).bind fun x6 =>
      r47_l3 app kt2 k_ v1 x6.1 v3 v4 v5 v6 v7 v8 v9 (w64 (v10 + 1)) x6.2)))
  else
    (kt2 v1 v2 v4 v5 v6 v7 (w64 (v8 + 1)) H)
noncomputable def r47_l2 (app : App) (kt1 : Int → Sl → Int → Int → Hp → Option ((Sl × Int) × Hp)) : Nat → Int → Sl → Int → Int → Sl → Int → Int → Hp → Option ((Sl × Int) × Hp)
  | 0, _, _, _, _, _, _, _, _ => none
  | k_ + 1, v1, v2, v3, v4, v5, v6, v7, H => if v7 < v6 then
    (ck ((0 : Int) ≤ v7 ∧ v7 < (v5.len : Int)) (
    (H.ldSl v5.b (v5.o + (v7 : Int).toNat * 1)).bind fun x3 =>
    r47_l3 app (fun v1_ v2_ v3_ v4_ v5_ v6_ v7_ H_ => r47_l2 app kt1 k_ v1_ v2_ v3_ v4_ v5_ v6_ v7_ H_) FUEL v1 v2 x3 v3 v4 v5 v6 v7 v1 0 H))
  else
    (kt1 v1 v2 v3 (w64 (v4 + 1)) H)
noncomputable def r47_l1 (app : App) : Nat → Int → Sl → Int → Int → Hp → Option ((Sl × Int) × Hp)
  | 0, _, _, _, _, _ => none
  | k_ + 1, v1, v2, v3, v4, H => if v4 < v3 then
    (r47_l2 app (fun v1_ v2_ v3_ v4_ H_ => r47_l1 app k_ v1_ v2_ v3_ v4_ H_) FUEL v1 ⟨true, 0, 0, 0, 0, 0⟩ v3 v4 v2 (v2.len : Int) 0 H)
  else
    ((r83 app v2 (.fn 84 [] []) H).bind fun p2 =>
    some ((p2.1, 0), p2.2))
noncomputable def r47_j0 (app : App) (v1 : Int) (v2 : Bool) (H : Hp) : Option ((Sl × Int) × Hp) :=
  if v2 = true then
    (some ((⟨true, 0, 0, 0, 0, 0⟩, 2), H))
  else
    (lt (H.push (.cells [.sl ⟨true, 0, 0, 0, 0, 0⟩] false)) fun H2 =>
    r47_l1 app FUEL v1 ⟨false, H.n, 0, 1, 1, 0⟩ v1 0 H2)
noncomputable def r47 (app : App) (a0 : Int) (H : Hp) : Option ((Sl × Int) × Hp) :=
  if a0 < 1 then
    (r47_j0 app a0 true H)
  else
    (r47_j0 app a0 (decide (6 < a0)) H)
/- 109 cmp.isNaN[int] -/
def ret109 : Bool → AV := fun r => .bool r
noncomputable def r109 (a0 : Int) (H : Hp) : Option (Bool × Hp) :=
  some ((decide (a0 ≠ a0)), H)
/- 87 cmp.Compare[int] -/
def ret87 : Int → AV := fun r => .int .i64 r
noncomputable def r87 (a0 : Int) (a1 : Int) (H : Hp) : Option (Int × Hp) :=
  (r109 a0 H).bind fun p1 =>
  (r109 a1 p1.2).bind fun p2 =>
  if p1.1 = true then
    (if p2.1 = true then
      (some (0, p2.2))
    else
      (some ((-1), p2.2)))
  else
    (if p2.1 = true then
      (some (1, p2.2))
    else
      (if a0 < a1 then
        (some ((-1), p2.2))
      else
        (if a1 < a0 then
          (some (1, p2.2))
        else
          (some (0, p2.2)))))
/- 50 slices.Compare[[]int,int] -/
def ret50 : Int → AV := fun r => .int .i64 r
noncomputable def r50_l0 : Nat → Sl → Sl → Sl → Int → Int → Hp → Option (Int × Hp)
  | 0, _, _, _, _, _, _ => none
  | k_ + 1, v1, v2, v3, v4, v5, H => if v5 < v4 then
    (ck ((0 : Int) ≤ v5 ∧ v5 < (v3.len : Int)) (
    (H.ldI .i64 v3.b (v3.o + (v5 : Int).toNat * 1)).bind fun x3 =>
    if (v2.len : Int) ≤ v5 then
      (some (1, H))
    else
      (ck ((0 : Int) ≤ v5 ∧ v5 < (v2.len : Int)) (
      (H.ldI .i64 v2.b (v2.o + (v5 : Int).toNat * 1)).bind fun x6 =>
      (r87 x3 x6 H).bind fun p7 =>
      if p7.1 ≠ 0 then
        (some (p7.1, p7.2))
      else
        (r50_l0 k_ v1 v2 v3 v4 (w64 (v5 + 1)) p7.2)))))
  else
    (if (v1.len : Int) < (v2.len : Int) then
      (some ((-1), H))
    else
      (some (0, H)))
noncomputable def r50 (a0 : Sl) (a1 : Sl) (H : Hp) : Option (Int × Hp) :=
  r50_l0 FUEL a0 a1 a0 (a0.len : Int) 0 H
/- 59 slices.ContainsFunc[[][]int,[]int] -/
def ret59 : Bool → AV := fun r => .bool r
noncomputable def r59 (app : App) (a0 : Sl) (a1 : AV) (H : Hp) : Option (Bool × Hp) :=
  (r99 app a0 a1 H).bind fun p1 =>
  some ((decide (0 ≤ p1.1)), p1.2)
/- 15 congou/congoulaw08.PairsCosts -/
def ret15 : Bool → AV := fun r => .bool r
noncomputable def r15_j2 (app : App) (kt1 : Int → Int → Int → Nat → Sl → Sl → Int → Int → Hp → Option (Bool × Hp)) (v1 : Int) (v2 : Int) (v3 : Int) (v4 : Nat) (v5 : Sl) (v6 : Sl) (v7 : Int) (v8 : Int) (v9 : Bool) (H : Hp) : Option (Bool × Hp) :=
  if v9 = true then
    (some (false, H))
  else
    (kt1 v1 v2 v3 v4 v5 v6 v7 (w64 (v8 + 1)) H)
noncomputable def r15_j4 (app : App) (v1 : Int) (v2 : Int) (H : Hp) : Option (Bool × Hp) :=
  (r27 v1 v2 H).bind fun p1 =>
  if p1.1.2 ≠ 0 then
    (if p1.1.2 = 2 then
      ((r23 app p1.2).bind fun p4 =>
      some (p4.1, p4.2))
    else
      (some (false, p1.2)))
  else
    ((r36 p1.1.1 p1.2).bind fun p5 =>
    (r38 p5.1 p5.2).bind fun p6 =>
    if p6.1.1 = true then
      (if p6.1.2 = 0 then
        (if (p1.1.1.len : Int) = (w64 (v1 - 1)) then
          ((r23 app p6.2).bind fun p10 =>
          some (p10.1, p10.2))
        else
          (some (false, p6.2)))
      else
        (some (false, p6.2)))
    else
      (some (false, p6.2)))
noncomputable def r15_j3 (app : App) (v1 : Int) (v2 : Int) (v3 : Bool) (H : Hp) : Option (Bool × Hp) :=
  if v3 = true then
    (some (false, H))
  else
    (r15_j4 app v1 v2 H)
noncomputable def r15_l1 (app : App) : Nat → Int → Int → Int → Nat → Sl → Sl → Int → Int → Hp → Option (Bool × Hp)
  | 0, _, _, _, _, _, _, _, _, _ => none
  | k_ + 1, v1, v2, v3, v4, v5, v6, v7, v8, H => if v8 < v7 then
    (ck ((0 : Int) ≤ v8 ∧ v8 < (v6.len : Int)) (
    (H.ldSl v6.b (v6.o + (v8 : Int).toNat * 1)).bind fun x3 =>
    (r36 x3 H).bind fun p4 =>
    (r38 p4.1 p4.2).bind fun p5 =>
    if p5.1.1 = true then
      (if p5.1.2 ≠ 0 then
        (r15_j2 app (fun v1_ v2_ v3_ v4_ v5_ v6_ v7_ v8_ H_ => r15_l1 app k_ v1_ v2_ v3_ v4_ v5_ v6_ v7_ v8_ H_) v1 v2 v3 v4 v5 v6 v7 v8 true p5.2)
      else
        (if (x3.len : Int) ≠ v1 then
          (r15_j2 app (fun v1_ v2_ v3_ v4_ v5_ v6_ v7_ v8_ H_ => r15_l1 app k_ v1_ v2_ v3_ v4_ v5_ v6_ v7_ v8_ H_) v1 v2 v3 v4 v5 v6 v7 v8 true p5.2)
        else
          (if 0 < v8 then
            (ck ((0 : Int) ≤ (w64 (v8 - 1)) ∧ (w64 (v8 - 1)) < (v5.len : Int)) (
            (p5.2.ldSl v5.b (v5.o + (w64 (v8 - 1) : Int).toNat * 1)).bind fun x11 =>
            (r50 x11 x3 p5.2).bind fun p12 =>
            r15_j2 app (fun v1_ v2_ v3_ v4_ v5_ v6_ v7_ v8_ H_ => r15_l1 app k_ v1_ v2_ v3_ v4_ v5_ v6_ v7_ v8_ H_) v1 v2 v3 v4 v5 v6 v7 v8 (decide (0 ≤ p12.1)) p12.2))
          else
            (r15_j2 app (fun v1_ v2_ v3_ v4_ v5_ v6_ v7_ v8_ H_ => r15_l1 app k_ v1_ v2_ v3_ v4_ v5_ v6_ v7_ v8_ H_) v1 v2 v3 v4 v5 v6 v7 v8 false p5.2))))
    else
      (r15_j2 app (fun v1_ v2_ v3_ v4_ v5_ v6_ v7_ v8_ H_ => r15_l1 app k_ v1_ v2_ v3_ v4_ v5_ v6_ v7_ v8_ H_) v1 v2 v3 v4 v5 v6 v7 v8 true p5.2)))
  else
    ((H.ldSl v4 0).bind fun x13 =>
    if (x13.len : Int) = v1 then
      ((H.ldSl v4 0).bind fun x15 =>
      (r31 x15 H).bind fun p16 =>
      (r38 p16.1 p16.2).bind fun p17 =>
      if p17.1.2 ≠ 0 then
        (r15_j3 app v2 v3 true p17.2)
      else
        ((r59 app v5 (.fn 60 [] [.ptr v4 0]) p17.2).bind fun p19 =>
        r15_j3 app v2 v3 (!(p17.1.1 == p19.1)) p19.2))
    else
      (r15_j4 app v2 v3 H))
noncomputable def r15_j0 (app : App) (v1 : Int) (v2 : Int) (v3 : Int) (v4 : Nat) (v5 : Sl) (v6 : Bool) (H : Hp) : Option (Bool × Hp) :=
  if v6 = true then
    (some (false, H))
  else
    (r15_l1 app FUEL v1 v2 v3 v4 v5 v5 (v5.len : Int) 0 H)
noncomputable def r15 (app : App) (a0 : Int) (a1 : Sl) (a2 : Int) (a3 : Int) (H : Hp) : Option (Bool × Hp) :=
  lt (H.push (.cells [.sl a1] false)) fun H1 =>
  (r47 app (w64 (1 + (w64 (Int.tmod (IntKind.wrap .u64 (a0)) 6)))) H1).bind fun p2 =>
  if p2.1.2 ≠ 0 then
    (r15_j0 app (w64 (1 + (w64 (Int.tmod (IntKind.wrap .u64 (a0)) 6)))) a2 a3 H.n p2.1.1 true p2.2)
  else
    (ck ((0 : Int) ≤ (w64 (1 + (w64 (Int.tmod (IntKind.wrap .u64 (a0)) 6)))) ∧ (w64 (1 + (w64 (Int.tmod (IntKind.wrap .u64 (a0)) 6)))) < ((7 : Nat) : Int)) (
    (apart false 1 [.int .i64 0, .int .i64 1, .int .i64 2, .int .i64 4, .int .i64 12, .int .i64 40, .int .i64 116] ((w64 (1 + (w64 (Int.tmod (IntKind.wrap .u64 (a0)) 6))) : Int).toNat * 1)).bind fun x5 =>
    (x5.asI .i64).bind fun x6 =>
    r15_j0 app (w64 (1 + (w64 (Int.tmod (IntKind.wrap .u64 (a0)) 6)))) a2 a3 H.n p2.1.1 (decide ((p2.1.1.len : Int) ≠ x6)) p2.2))
/- 60 congou/congoulaw08.PairsCosts$1 -/
def ret60 : Bool → AV := fun r => .bool r
noncomputable def r60 (a0 : Sl) (c0 : Nat) (H : Hp) : Option (Bool × Hp) :=
  (H.ldSl c0 0).bind fun x1 =>
  (r25 a0 x1 H).bind fun p2 =>
  some (p2.1, p2.2)
/- 74 congou/pairs.First$1 -/
def ret74 : Bool → AV := fun r => .bool r
noncomputable def r74 (a0 : Sl) (c0 : Nat) (H : Hp) : Option (Bool × Hp) :=
  (r36 a0 H).bind fun p1 =>
  (p1.2.st c0 0 (.sl p1.1)).bind fun H2 =>
  some (false, H2)
/- 107 congou/pairs.rows$1 -/
def ret107 : Bool → AV := fun r => .bool r
noncomputable def r107_j1 (app : App) (kt0 : Int → Nat → Nat → Nat → Nat → Int → Int → Hp → Option (Bool × Hp)) (v1 : Int) (v2 : Nat) (v3 : Nat) (v4 : Nat) (v5 : Nat) (v6 : Int) (v7 : Int) (v8 : Int) (v9 : Bool) (H : Hp) : Option (Bool × Hp) :=
  if v9 = true then
    (kt0 v1 v2 v3 v4 v5 v6 (w64 (v7 + 1)) H)
  else
    ((H.ldSl v2 0).bind fun x2 =>
    (H.ldSl v2 0).bind fun x3 =>
    ck ((0 : Int) ≤ v6 ∧ v6 < (x2.len : Int)) (
    (H.st x2.b (x2.o + (v6 : Int).toNat * 1) (.int .i64 v7)).bind fun H5 =>
    ck ((0 : Int) ≤ v8 ∧ v8 < (x3.len : Int)) (
    (H5.st x3.b (x3.o + (v8 : Int).toNat * 1) (.int .i64 v7)).bind fun H7 =>
    ck (H5.ldSl v2 0 = some x3) (
    ck (H7.ldSl v2 0 = some x3) (
    (H7.ldV v5 0).bind fun x10 =>
    ck (¬ v7 < 0) (
    (callv app x10 [.int .i64 (bitsOf .or .i64 v1 (shlOf .i64 1 v7))] H7).bind fun p12 =>
    (p12.1.asB).bind fun x13 =>
    (p12.2.ldSl v2 0).bind fun x14 =>
    (p12.2.ldSl v2 0).bind fun x15 =>
    ck ((0 : Int) ≤ v6 ∧ v6 < (x14.len : Int)) (
    (p12.2.st x14.b (x14.o + (v6 : Int).toNat * 1) (.int .i64 0)).bind fun H17 =>
    ck ((0 : Int) ≤ v8 ∧ v8 < (x15.len : Int)) (
    (H17.st x15.b (x15.o + (v8 : Int).toNat * 1) (.int .i64 0)).bind fun H19 =>
    ck (H17.ldSl v2 0 = some x15) (
    ck (H19.ldSl v2 0 = some x15) (
    if x13 = true then
      (kt0 v1 v2 v3 v4 v5 v6 (w64 (v7 + 1)) H19)
    else
      (some (false, H19))))))))))))
noncomputable def r107_l0 (app : App) : Nat → Int → Nat → Nat → Nat → Nat → Int → Int → Hp → Option (Bool × Hp)
  | 0, _, _, _, _, _, _, _, _ => none
  | k_ + 1, v1, v2, v3, v4, v5, v6, v7, H => (H.ldI .i64 v3 0).bind fun x1 =>
  if v7 ≤ x1 then
    ((H.ldI .i64 v4 0).bind fun x3 =>
    ck (¬ v7 < 0) (
    if (bitsOf .and .i64 (shrOf .i64 v1 v7) 1) = 1 then
      (r107_j1 app (fun v1_ v2_ v3_ v4_ v5_ v6_ v7_ H_ => r107_l0 app k_ v1_ v2_ v3_ v4_ v5_ v6_ v7_ H_) v1 v2 v3 v4 v5 v6 v7 (w64 ((w64 ((w64 (v6 + v7)) + x3)) - 1)) true H)
    else
      ((H.ldSl v2 0).bind fun x6 =>
      if (x6.len : Int) ≤ (w64 ((w64 ((w64 (v6 + v7)) + x3)) - 1)) then
        (r107_j1 app (fun v1_ v2_ v3_ v4_ v5_ v6_ v7_ H_ => r107_l0 app k_ v1_ v2_ v3_ v4_ v5_ v6_ v7_ H_) v1 v2 v3 v4 v5 v6 v7 (w64 ((w64 ((w64 (v6 + v7)) + x3)) - 1)) true H)
      else
        ((H.ldSl v2 0).bind fun x8 =>
        ck ((0 : Int) ≤ (w64 ((w64 ((w64 (v6 + v7)) + x3)) - 1)) ∧ (w64 ((w64 ((w64 (v6 + v7)) + x3)) - 1)) < (x8.len : Int)) (
        (H.ldI .i64 x8.b (x8.o + (w64 ((w64 ((w64 (v6 + v7)) + x3)) - 1) : Int).toNat * 1)).bind fun x10 =>
        r107_j1 app (fun v1_ v2_ v3_ v4_ v5_ v6_ v7_ H_ => r107_l0 app k_ v1_ v2_ v3_ v4_ v5_ v6_ v7_ H_) v1 v2 v3 v4 v5 v6 v7 (w64 ((w64 ((w64 (v6 + v7)) + x3)) - 1)) (decide (x10 ≠ 0)) H)))))
  else
    (some (true, H))
noncomputable def r107 (app : App) (a0 : Int) (c0 : Nat) (c1 : Nat) (c2 : Nat) (c3 : Nat) (c4 : Nat) (H : Hp) : Option (Bool × Hp) :=
  (H.ldSl c0 0).bind fun x1 =>
  (r108 x1 0 H).bind fun p2 =>
  if p2.1 < 0 then
    ((p2.2.ldV c1 0).bind fun x4 =>
    (p2.2.ldSl c0 0).bind fun x5 =>
    (callv app x4 [.sl x5] p2.2).bind fun p6 =>
    (p6.1.asB).bind fun x7 =>
    some (x7, p6.2))
  else
    (r107_l0 app FUEL a0 c0 c2 c3 c4 p2.1 1 p2.2)
end Go.Lt.P8
