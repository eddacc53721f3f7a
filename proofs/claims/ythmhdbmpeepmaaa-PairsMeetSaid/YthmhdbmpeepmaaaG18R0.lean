/- PRINTED BY A PROGRAM OF OURS: what each function that 'PairsMeet' reaches computes on the abstract heap, and that the translated code does just that. Nothing is asked of the input. -/
import Derived.Test.YthmhdbmpeepmaaaG18T
set_option linter.unusedVariables false
set_option linter.unusedSimpArgs false
set_option maxRecDepth 100000
set_option maxHeartbeats 4000000
namespace Go.Lt.P8
open Go Go.Lt Go.Proofs
/- 80 congou/pairs.isShift -/
def ret80 : Bool → AV := fun r => .bool r
noncomputable def r80 (a0 : Int) (H : Hp) : Option (Bool × Hp) :=
  if a0 = 1 then
    (some (true, H))
  else
    (some ((decide (a0 = 2)), H))
/- 72 congou/pairs.isRows -/
def ret72 : Bool → AV := fun r => .bool r
noncomputable def r72 (a0 : Int) (a1 : Int) (H : Hp) : Option (Bool × Hp) :=
  if 1 ≤ a0 then
    (if a0 ≤ 8 then
      ((r80 a1 H).bind fun p3 =>
      some (p3.1, p3.2))
    else
      (some (false, H)))
  else
    (some (false, H))
/- 73 congou/pairs.rows -/
def ret73 : Unit → AV := fun _ => .tup []
noncomputable def r73 (app : App) (a0 : Int) (a1 : Int) (a2 : AV) (H : Hp) : Option (Unit × Hp) :=
  ck (AV.one a2 = true) (
  lt (((H.push (.cells [.int .i64 a0] false)).push (.cells [.int .i64 a1] false)).push (.cells [a2] false)) fun H2 =>
  (H2.ldI .i64 H.n 0).bind fun x3 =>
  ck ((0 : Int) ≤ (w64 (2 * x3)) ∧ (w64 (2 * x3)) ≤ (w64 (2 * x3)) ∧ (w64 (2 * x3)) ≤ 4294967296) (
  (((H2.push (.cells (zerosA [.int .i64 0] ((w64 (2 * x3) : Int).toNat * 1)) false)).push (.cells [.sl ⟨true, 0, 0, 0, 0, 0⟩] false)).st ((H2.push (.cells (zerosA [.int .i64 0] ((w64 (2 * x3) : Int).toNat * 1)) false)).n) 0 (.sl ⟨false, H2.n, 0, (w64 (2 * x3) : Int).toNat, (w64 (2 * x3) : Int).toNat, 0⟩)).bind fun H5 =>
  lt (H5.push (.cells [.nilfn] false)) fun H6 =>
  (H6.st H5.n 0 (.fn 107 [] [.ptr ((H2.push (.cells (zerosA [.int .i64 0] ((w64 (2 * x3) : Int).toNat * 1)) false)).n) 0, .ptr (((H.push (.cells [.int .i64 a0] false)).push (.cells [.int .i64 a1] false)).n) 0, .ptr H.n 0, .ptr ((H.push (.cells [.int .i64 a0] false)).n) 0, .ptr H5.n 0])).bind fun H7 =>
  (H7.ldV H5.n 0).bind fun x8 =>
  (callv app x8 [.int .i64 0] H7).bind fun p9 =>
  (p9.1.asB).bind fun x10 =>
  some ((), p9.2)))
/- 20 congou/pairs.First -/
def ret20 : Sl × Int → AV := fun r => .tup [.sl r.1, .int .i64 r.2]
noncomputable def r20 (app : App) (a0 : Int) (a1 : Int) (H : Hp) : Option ((Sl × Int) × Hp) :=
  (r72 a0 a1 H).bind fun p1 =>
  if p1.1 = true then
    (lt (p1.2.push (.cells [.sl ⟨true, 0, 0, 0, 0, 0⟩] false)) fun H3 =>
    (r73 app a0 a1 (.fn 74 [] [.ptr p1.2.n 0]) H3).bind fun p4 =>
    (p4.2.ldSl p1.2.n 0).bind fun x5 =>
    if x5.nil = true then
      (some ((⟨true, 0, 0, 0, 0, 0⟩, 4), p4.2))
    else
      ((p4.2.ldSl p1.2.n 0).bind fun x7 =>
      some ((x7, 0), p4.2)))
  else
    (some ((⟨true, 0, 0, 0, 0, 0⟩, 2), p1.2))
/- 25 slices.Equal[[]int,int] -/
def ret25 : Bool → AV := fun r => .bool r
noncomputable def r25_l0 : Nat → Sl → Sl → Int → Int → Hp → Option (Bool × Hp)
  | 0, _, _, _, _, _ => none
  | k_ + 1, v1, v2, v3, v4, H => if v4 < v3 then
    (ck ((0 : Int) ≤ v4 ∧ v4 < (v1.len : Int)) (
    (H.ldI .i64 v1.b (v1.o + (v4 : Int).toNat * 1)).bind fun x3 =>
    ck ((0 : Int) ≤ v4 ∧ v4 < (v2.len : Int)) (
    (H.ldI .i64 v2.b (v2.o + (v4 : Int).toNat * 1)).bind fun x5 =>
    if x3 ≠ x5 then
      (some (false, H))
    else
      (r25_l0 k_ v1 v2 v3 (w64 (v4 + 1)) H))))
  else
    (some (true, H))
noncomputable def r25 (a0 : Sl) (a1 : Sl) (H : Hp) : Option (Bool × Hp) :=
  if (a0.len : Int) ≠ (a1.len : Int) then
    (some (false, H))
  else
    (r25_l0 FUEL a0 a1 (a0.len : Int) 0 H)
/- 23 congou/congoulaw08.awake -/
def ret23 : Bool → AV := fun r => .bool r
noncomputable def r23 (app : App) (H : Hp) : Option (Bool × Hp) :=
  (r20 app 1 1 H).bind fun p1 =>
  if p1.1.2 = 0 then
    ((r25 p1.1.1 ⟨false, p1.2.n, 0, 2, 2, 0⟩ (p1.2.push (.cells [.int .i64 1, .int .i64 1] false))).bind fun p3 =>
    some (p3.1, p3.2))
  else
    (some (false, p1.2))
/- 100 congou/pairs.isPlayers -/
def ret100 : Bool → AV := fun r => .bool r
noncomputable def r100 (a0 : Int) (H : Hp) : Option (Bool × Hp) :=
  if 1 ≤ a0 then
    (some ((decide (a0 ≤ 4)), H))
  else
    (some (false, H))
/- 101 slices.IsSortedFunc[[][2]int,[2]int] -/
def ret101 : Bool → AV := fun r => .bool r
noncomputable def r101_l0 (app : App) : Nat → Sl → AV → Int → Hp → Option (Bool × Hp)
  | 0, _, _, _, _ => none
  | k_ + 1, v1, v2, v3, H => if 0 < v3 then
    (ck ((0 : Int) ≤ v3 ∧ v3 < (v1.len : Int)) (
    (H.ldI .i64 v1.b (v1.o + (v3 : Int).toNat * 2)).bind fun x3 =>
    (H.ldI .i64 v1.b ((v1.o + (v3 : Int).toNat * 2) + 1)).bind fun x4 =>
    ck ((0 : Int) ≤ (w64 (v3 - 1)) ∧ (w64 (v3 - 1)) < (v1.len : Int)) (
    (H.ldI .i64 v1.b (v1.o + (w64 (v3 - 1) : Int).toNat * 2)).bind fun x6 =>
    (H.ldI .i64 v1.b ((v1.o + (w64 (v3 - 1) : Int).toNat * 2) + 1)).bind fun x7 =>
    (callv app v2 [.agg [.int .i64 x3, .int .i64 x4], .agg [.int .i64 x6, .int .i64 x7]] H).bind fun p8 =>
    (p8.1.asI .i64).bind fun x9 =>
    if x9 < 0 then
      (some (false, p8.2))
    else
      (r101_l0 app k_ v1 v2 (w64 (v3 - 1)) p8.2))))
  else
    (some (true, H))
noncomputable def r101 (app : App) (a0 : Sl) (a1 : AV) (H : Hp) : Option (Bool × Hp) :=
  r101_l0 app FUEL a0 a1 (w64 ((a0.len : Int) - 1)) H
/- 109 cmp.isNaN[int] -/
def ret109 : Bool → AV := fun r => .bool r
noncomputable def r109 (a0 : Int) (H : Hp) : Option (Bool × Hp) :=
  some ((decide (a0 ≠ a0)), H)
/- 87 cmp.Compare[int] -/
def ret87 : Int → AV := fun r => .int .i64 r
noncomputable def r87 (a0 : Int) (a1 : Int) (H : Hp) : Option (Int × Hp) :=
  (r109 a0 H).bind fun p1 =>
  (r109 a1 p1.2).bind fun p2 =>
  if p1.1 = true then
    (if p2.1 = true then
      (some (0, p2.2))
    else
      (some ((-1), p2.2)))
  else
    (if p2.1 = true then
      (some (1, p2.2))
    else
      (if a0 < a1 then
        (some ((-1), p2.2))
      else
        (if a1 < a0 then
          (some (1, p2.2))
        else
          (some (0, p2.2)))))
/- 113 cmp.Or[int] -/
def ret113 : Int → AV := fun r => .int .i64 r
noncomputable def r113_l0 : Nat → Int → Sl → Int → Int → Hp → Option (Int × Hp)
  | 0, _, _, _, _, _ => none
  | k_ + 1, v1, v2, v3, v4, H => if v4 < v3 then
    (ck ((0 : Int) ≤ v4 ∧ v4 < (v2.len : Int)) (
    (H.ldI .i64 v2.b (v2.o + (v4 : Int).toNat * 1)).bind fun x3 =>
    if x3 ≠ v1 then
      (some (x3, H))
    else
      (r113_l0 k_ v1 v2 v3 (w64 (v4 + 1)) H)))
  else
    (some (v1, H))
noncomputable def r113 (a0 : Sl) (H : Hp) : Option (Int × Hp) :=
  r113_l0 FUEL 0 a0 (a0.len : Int) 0 H
/- 102 congou/pairs.comparePairs -/
def ret102 : Int → AV := fun r => .int .i64 r
noncomputable def r102 (a0_0 : Int) (a0_1 : Int) (a1_0 : Int) (a1_1 : Int) (H : Hp) : Option (Int × Hp) :=
  lt ((H.push (.cells [.int .i64 a0_0, .int .i64 a0_1] false)).push (.cells [.int .i64 a1_0, .int .i64 a1_1] false)) fun H1 =>
  (H1.ldI .i64 H.n (0 + (0 : Int).toNat * 1)).bind fun x2 =>
  (H1.ldI .i64 ((H.push (.cells [.int .i64 a0_0, .int .i64 a0_1] false)).n) (0 + (0 : Int).toNat * 1)).bind fun x3 =>
  (r87 x2 x3 H1).bind fun p4 =>
  (p4.2.ldI .i64 H.n (0 + (1 : Int).toNat * 1)).bind fun x5 =>
  (p4.2.ldI .i64 ((H.push (.cells [.int .i64 a0_0, .int .i64 a0_1] false)).n) (0 + (1 : Int).toNat * 1)).bind fun x6 =>
  (r87 x5 x6 p4.2).bind fun p7 =>
  (r113 ⟨false, p7.2.n, 0, 2, 2, 0⟩ (p7.2.push (.cells [.int .i64 p4.1, .int .i64 p7.1] false))).bind fun p8 =>
  ck (H1.ldI .i64 H.n (0 + (1 : Int).toNat * 1) = some x5) (
  ck (H1.ldI .i64 ((H.push (.cells [.int .i64 a0_0, .int .i64 a0_1] false)).n) (0 + (1 : Int).toNat * 1) = some x6) (
  ck (p7.2.ldI .i64 H.n (0 + (1 : Int).toNat * 1) = some x5) (
  ck (p7.2.ldI .i64 ((H.push (.cells [.int .i64 a0_0, .int .i64 a0_1] false)).n) (0 + (1 : Int).toNat * 1) = some x6) (
  ck ((p7.2.push (.cells [.int .i64 p4.1, .int .i64 p7.1] false)).ldI .i64 H.n (0 + (1 : Int).toNat * 1) = some x5) (
  ck ((p7.2.push (.cells [.int .i64 p4.1, .int .i64 p7.1] false)).ldI .i64 ((H.push (.cells [.int .i64 a0_0, .int .i64 a0_1] false)).n) (0 + (1 : Int).toNat * 1) = some x6) (
  ck (p8.2.ldI .i64 H.n (0 + (1 : Int).toNat * 1) = some x5) (
  ck (p8.2.ldI .i64 ((H.push (.cells [.int .i64 a0_0, .int .i64 a0_1] false)).n) (0 + (1 : Int).toNat * 1) = some x6) (
  some (p8.1, p8.2)))))))))
/- 62 congou/pairs.IsRounds -/
def ret62 : Bool × Int → AV := fun r => .tup [.bool r.1, .int .i64 r.2]
noncomputable def r62_j3 (app : App) (kt2 : Int → Nat → Int → Sl → Int → Int → Sl → Int → Int → Hp → Option ((Bool × Int) × Hp)) (v1 : Int) (v2 : Nat) (v3 : Int) (v4 : Nat) (v5 : Sl) (v6 : Int) (v7 : Int) (v8 : Sl) (v9 : Int) (v10 : Int) (v11 : Bool) (H : Hp) : Option ((Bool × Int) × Hp) :=
  if v11 = true then
    (some ((false, 0), H))
  else
    ((H.ldI .i64 v4 0).bind fun x2 =>
    (H.ldI .i64 v4 (0 + 1)).bind fun x3 =>
    (H.msetT (.arr 2 .i64) v2 (.agg [.int .i64 x2, .int .i64 x3]) (.bool true)).bind fun H4 =>
    (H4.ldI .i64 v4 (0 + (0 : Int).toNat * 1)).bind fun x5 =>
    ck (¬ x5 < 0) (
    (H4.ldI .i64 v4 (0 + (1 : Int).toNat * 1)).bind fun x7 =>
    ck (¬ x7 < 0) (
    kt2 v1 v2 (bitsOf .or .i64 v3 (bitsOf .or .i64 (shlOf .i64 1 x5) (shlOf .i64 1 x7))) v5 v6 v7 v8 v9 (w64 (v10 + 1)) H4)))
noncomputable def r62_l2 (app : App) (kt0 : Int → Nat → Sl → Int → Int → Hp → Option ((Bool × Int) × Hp)) : Nat → Int → Nat → Int → Sl → Int → Int → Sl → Int → Int → Hp → Option ((Bool × Int) × Hp)
  | 0, _, _, _, _, _, _, _, _, _, _ => none
  | k_ + 1, v1, v2, v3, v4, v5, v6, v7, v8, v9, H => if v9 < v8 then
    (ck ((0 : Int) ≤ v9 ∧ v9 < (v7.len : Int)) (
    (H.ldI .i64 v7.b (v7.o + (v9 : Int).toNat * 2)).bind fun x3 =>
    (H.ldI .i64 v7.b ((v7.o + (v9 : Int).toNat * 2) + 1)).bind fun x4 =>
    ((H.push (.cells [.int .i64 0, .int .i64 0] false)).sts H.n 0 [.int .i64 x3, .int .i64 x4]).bind fun H5 =>
    (H5.ldI .i64 H.n (0 + (0 : Int).toNat * 1)).bind fun x6 =>
    if x6 < 0 then
      (r62_j3 app (fun v1_ v2_ v3_ v4_ v5_ v6_ v7_ v8_ v9_ H_ => r62_l2 app kt0 k_ v1_ v2_ v3_ v4_ v5_ v6_ v7_ v8_ v9_ H_) v1 v2 v3 H.n v4 v5 v6 v7 v8 v9 true H5)
    else
      ((H5.ldI .i64 H.n (0 + (0 : Int).toNat * 1)).bind fun x8 =>
      (H5.ldI .i64 H.n (0 + (1 : Int).toNat * 1)).bind fun x9 =>
      if x9 ≤ x8 then
        (r62_j3 app (fun v1_ v2_ v3_ v4_ v5_ v6_ v7_ v8_ v9_ H_ => r62_l2 app kt0 k_ v1_ v2_ v3_ v4_ v5_ v6_ v7_ v8_ v9_ H_) v1 v2 v3 H.n v4 v5 v6 v7 v8 v9 true H5)
      else
        ((H5.ldI .i64 H.n (0 + (1 : Int).toNat * 1)).bind fun x11 =>
        if (w64 (2 * v1)) ≤ x11 then
          (r62_j3 app (fun v1_ v2_ v3_ v4_ v5_ v6_ v7_ v8_ v9_ H_ => r62_l2 app kt0 k_ v1_ v2_ v3_ v4_ v5_ v6_ v7_ v8_ v9_ H_) v1 v2 v3 H.n v4 v5 v6 v7 v8 v9 true H5)
        else
          ((H5.ldI .i64 H.n 0).bind fun x13 =>
          (H5.ldI .i64 H.n (0 + 1)).bind fun x14 =>
          (H5.mgetT (.arr 2 .i64) v2 (.agg [.int .i64 x13, .int .i64 x14])).bind fun x15 =>
          ((x15.getD (.bool false)).asB).bind fun x16 =>
          r62_j3 app (fun v1_ v2_ v3_ v4_ v5_ v6_ v7_ v8_ v9_ H_ => r62_l2 app kt0 k_ v1_ v2_ v3_ v4_ v5_ v6_ v7_ v8_ v9_ H_) v1 v2 v3 H.n v4 v5 v6 v7 v8 v9 x16 H5)))))
  else
    (ck (¬ (w64 (2 * v1)) < 0) (
    if v3 ≠ (w64 ((shlOf .i64 1 (w64 (2 * v1))) - 1)) then
      (some ((false, 0), H))
    else
      (kt0 v1 v2 v4 v5 (w64 (v6 + 1)) H)))
noncomputable def r62_j1 (app : App) (kt0 : Int → Nat → Sl → Int → Int → Hp → Option ((Bool × Int) × Hp)) (v1 : Int) (v2 : Nat) (v3 : Sl) (v4 : Int) (v5 : Sl) (v6 : Int) (v7 : Int) (v8 : Bool) (H : Hp) : Option ((Bool × Int) × Hp) :=
  if v8 = true then
    (some ((false, 0), H))
  else
    (r62_l2 app kt0 FUEL v1 v2 v4 v5 v6 v7 v3 (v3.len : Int) 0 H)
noncomputable def r62_l0 (app : App) : Nat → Int → Nat → Sl → Int → Int → Hp → Option ((Bool × Int) × Hp)
  | 0, _, _, _, _, _, _ => none
  | k_ + 1, v1, v2, v3, v4, v5, H => if v5 < v4 then
    (ck ((0 : Int) ≤ v5 ∧ v5 < (v3.len : Int)) (
    (H.ldSl v3.b (v3.o + (v5 : Int).toNat * 1)).bind fun x3 =>
    if (x3.len : Int) ≠ v1 then
      (r62_j1 app (fun v1_ v2_ v3_ v4_ v5_ H_ => r62_l0 app k_ v1_ v2_ v3_ v4_ v5_ H_) v1 v2 x3 0 v3 v4 v5 true H)
    else
      ((r101 app x3 (.fn 102 [] []) H).bind fun p5 =>
      r62_j1 app (fun v1_ v2_ v3_ v4_ v5_ H_ => r62_l0 app k_ v1_ v2_ v3_ v4_ v5_ H_) v1 v2 x3 0 v3 v4 v5 (!p5.1) p5.2)))
  else
    (some ((true, 0), H))
noncomputable def r62 (app : App) (a0 : Int) (a1 : Sl) (H : Hp) : Option ((Bool × Int) × Hp) :=
  (r100 a0 H).bind fun p1 =>
  if p1.1 = true then
    (if (a1.len : Int) ≠ (w64 ((w64 (2 * a0)) - 1)) then
      (some ((false, 0), p1.2))
    else
      (lt (p1.2.push (.map (.arr 2 .i64) [])) fun H4 =>
      r62_l0 app FUEL a0 p1.2.n a1 (a1.len : Int) 0 H4))
  else
    (some ((false, 2), p1.2))
/- 103 slices.Clone[[][2]int,[2]int] -/
def ret103 : Sl → AV := fun r => .sl r
noncomputable def r103 (a0 : Sl) (H : Hp) : Option (Sl × Hp) :=
  if a0.nil = true then
    (some (⟨true, 0, 0, 0, 0, 0⟩, H))
  else
    (((H.push (.cells [] false)).lds a0.b a0.o (a0.len * 2)).bind fun x2 =>
    ck (x2.all AV.one = true) (
    ((H.push (.cells [] false)).app 2 ⟨false, H.n, 0, 0, 0, 0⟩ x2 a0.len).bind fun x4 =>
    some (x4.1, x4.2)))
/- 63 congou/congoulaw08.rounds -/
def ret63 : Sl → AV := fun r => .sl r
noncomputable def r63_l0 : Nat → Sl → Sl → Int → Int → Hp → Option (Sl × Hp)
  | 0, _, _, _, _, _ => none
  | k_ + 1, v1, v2, v3, v4, H => if v4 < v3 then
    (ck ((0 : Int) ≤ v4 ∧ v4 < (v2.len : Int)) (
    (H.ldSl v2.b (v2.o + (v4 : Int).toNat * 1)).bind fun x3 =>
    if v4 < 10 then
      (ck (((0 : Int) ≤ 0 ∧ 0 ≤ (if 7 < (x3.len : Int) then 7 else (x3.len : Int)) ∧ (if 7 < (x3.len : Int) then 7 else (x3.len : Int)) ≤ (x3.cap : Int)) ∧ (x3.opn = 0 ∨ x3.opn = 2)) (
      (r103 (x3.cut 2 (0 : Int).toNat ((if 7 < (x3.len : Int) then 7 else (x3.len : Int)) : Int).toNat) H).bind fun p6 =>
      (p6.2.apN 1 v1 [.sl p6.1] 1).bind fun x7 =>
      r63_l0 k_ x7.1 v2 v3 (w64 (v4 + 1)) x7.2))
    else
      (r63_l0 k_ v1 v2 v3 (w64 (v4 + 1)) H)))
  else
    (some (v1, H))
noncomputable def r63 (a0 : Sl) (H : Hp) : Option (Sl × Hp) :=
  r63_l0 FUEL ⟨true, 0, 0, 0, 0, 0⟩ a0 (a0.len : Int) 0 H
/- 114 slices.insertionSortCmpFunc[[2]int] -/
def ret114 : Unit → AV := fun _ => .tup []
noncomputable def r114_j2 (app : App) (kt0 : Sl → Int → Int → AV → Int → Hp → Option (Unit × Hp)) (kt1 : Sl → Int → Int → AV → Int → Int → Hp → Option (Unit × Hp)) (v1 : Sl) (v2 : Int) (v3 : Int) (v4 : AV) (v5 : Int) (v6 : Int) (v7 : Bool) (H : Hp) : Option (Unit × Hp) :=
  if v7 = true then
    (ck ((0 : Int) ≤ (w64 (v6 - 1)) ∧ (w64 (v6 - 1)) < (v1.len : Int)) (
    (H.ldI .i64 v1.b (v1.o + (w64 (v6 - 1) : Int).toNat * 2)).bind fun x3 =>
    (H.ldI .i64 v1.b ((v1.o + (w64 (v6 - 1) : Int).toNat * 2) + 1)).bind fun x4 =>
    ck ((0 : Int) ≤ v6 ∧ v6 < (v1.len : Int)) (
    (H.ldI .i64 v1.b (v1.o + (v6 : Int).toNat * 2)).bind fun x6 =>
    (H.ldI .i64 v1.b ((v1.o + (v6 : Int).toNat * 2) + 1)).bind fun x7 =>
    ck ((0 : Int) ≤ v6 ∧ v6 < (v1.len : Int)) (
    (H.sts v1.b (v1.o + (v6 : Int).toNat * 2) [.int .i64 x3, .int .i64 x4]).bind fun H9 =>
    ck ((0 : Int) ≤ (w64 (v6 - 1)) ∧ (w64 (v6 - 1)) < (v1.len : Int)) (
    (H9.sts v1.b (v1.o + (w64 (v6 - 1) : Int).toNat * 2) [.int .i64 x6, .int .i64 x7]).bind fun H11 =>
    kt1 v1 v2 v3 v4 v5 (w64 (v6 - 1)) H11)))))
  else
    (kt0 v1 v2 v3 v4 (w64 (v5 + 1)) H)
noncomputable def r114_l1 (app : App) (kt0 : Sl → Int → Int → AV → Int → Hp → Option (Unit × Hp)) : Nat → Sl → Int → Int → AV → Int → Int → Hp → Option (Unit × Hp)
  | 0, _, _, _, _, _, _, _ => none
  | k_ + 1, v1, v2, v3, v4, v5, v6, H => if v2 < v6 then
    (ck ((0 : Int) ≤ v6 ∧ v6 < (v1.len : Int)) (
    (H.ldI .i64 v1.b (v1.o + (v6 : Int).toNat * 2)).bind fun x3 =>
    (H.ldI .i64 v1.b ((v1.o + (v6 : Int).toNat * 2) + 1)).bind fun x4 =>
    ck ((0 : Int) ≤ (w64 (v6 - 1)) ∧ (w64 (v6 - 1)) < (v1.len : Int)) (
    (H.ldI .i64 v1.b (v1.o + (w64 (v6 - 1) : Int).toNat * 2)).bind fun x6 =>
    (H.ldI .i64 v1.b ((v1.o + (w64 (v6 - 1) : Int).toNat * 2) + 1)).bind fun x7 =>
    (callv app v4 [.agg [.int .i64 x3, .int .i64 x4], .agg [.int .i64 x6, .int .i64 x7]] H).bind fun p8 =>
    (p8.1.asI .i64).bind fun x9 =>
    r114_j2 app kt0 (fun v1_ v2_ v3_ v4_ v5_ v6_ H_ => r114_l1 app kt0 k_ v1_ v2_ v3_ v4_ v5_ v6_ H_) v1 v2 v3 v4 v5 v6 (decide (x9 < 0)) p8.2)))
  else
    (r114_j2 app kt0 (fun v1_ v2_ v3_ v4_ v5_ v6_ H_ => r114_l1 app kt0 k_ v1_ v2_ v3_ v4_ v5_ v6_ H_) v1 v2 v3 v4 v5 v6 false H)
noncomputable def r114_l0 (app : App) : Nat → Sl → Int → Int → AV → Int → Hp → Option (Unit × Hp)
  | 0, _, _, _, _, _, _ => none
  | k_ + 1, v1, v2, v3, v4, v5, H => if v5 < v3 then
    (r114_l1 app (fun v1_ v2_ v3_ v4_ v5_ H_ => r114_l0 app k_ v1_ v2_ v3_ v4_ v5_ H_) FUEL v1 v2 v3 v4 v5 v5 H)
  else
    (some ((), H))
noncomputable def r114 (app : App) (a0 : Sl) (a1 : Int) (a2 : Int) (a3 : AV) (H : Hp) : Option (Unit × Hp) :=
  r114_l0 app FUEL a0 a1 a2 a3 (w64 (a1 + 1)) H
/- 125 slices.siftDownCmpFunc[[2]int] -/
def ret125 : Unit → AV := fun _ => .tup []
noncomputable def r125_j1 (app : App) (kt0 : Sl → Int → Int → AV → Int → Hp → Option (Unit × Hp)) (v1 : Sl) (v2 : Int) (v3 : Int) (v4 : AV) (v5 : Int) (v6 : Int) (H : Hp) : Option (Unit × Hp) :=
  ck ((0 : Int) ≤ (w64 (v3 + v5)) ∧ (w64 (v3 + v5)) < (v1.len : Int)) (
  (H.ldI .i64 v1.b (v1.o + (w64 (v3 + v5) : Int).toNat * 2)).bind fun x2 =>
  (H.ldI .i64 v1.b ((v1.o + (w64 (v3 + v5) : Int).toNat * 2) + 1)).bind fun x3 =>
  ck ((0 : Int) ≤ (w64 (v3 + v6)) ∧ (w64 (v3 + v6)) < (v1.len : Int)) (
  (H.ldI .i64 v1.b (v1.o + (w64 (v3 + v6) : Int).toNat * 2)).bind fun x5 =>
  (H.ldI .i64 v1.b ((v1.o + (w64 (v3 + v6) : Int).toNat * 2) + 1)).bind fun x6 =>
  (callv app v4 [.agg [.int .i64 x2, .int .i64 x3], .agg [.int .i64 x5, .int .i64 x6]] H).bind fun p7 =>
  (p7.1.asI .i64).bind fun x8 =>
  if x8 < 0 then
    (ck ((0 : Int) ≤ (w64 (v3 + v6)) ∧ (w64 (v3 + v6)) < (v1.len : Int)) (
    (p7.2.ldI .i64 v1.b (v1.o + (w64 (v3 + v6) : Int).toNat * 2)).bind fun x11 =>
    (p7.2.ldI .i64 v1.b ((v1.o + (w64 (v3 + v6) : Int).toNat * 2) + 1)).bind fun x12 =>
    ck ((0 : Int) ≤ (w64 (v3 + v5)) ∧ (w64 (v3 + v5)) < (v1.len : Int)) (
    (p7.2.ldI .i64 v1.b (v1.o + (w64 (v3 + v5) : Int).toNat * 2)).bind fun x14 =>
    (p7.2.ldI .i64 v1.b ((v1.o + (w64 (v3 + v5) : Int).toNat * 2) + 1)).bind fun x15 =>
    ck ((0 : Int) ≤ (w64 (v3 + v5)) ∧ (w64 (v3 + v5)) < (v1.len : Int)) (
    (p7.2.sts v1.b (v1.o + (w64 (v3 + v5) : Int).toNat * 2) [.int .i64 x11, .int .i64 x12]).bind fun H17 =>
    ck ((0 : Int) ≤ (w64 (v3 + v6)) ∧ (w64 (v3 + v6)) < (v1.len : Int)) (
    (H17.sts v1.b (v1.o + (w64 (v3 + v6) : Int).toNat * 2) [.int .i64 x14, .int .i64 x15]).bind fun H19 =>
    kt0 v1 v2 v3 v4 v6 H19)))))
  else
    (some ((), p7.2))))
noncomputable def r125_j2 (app : App) (kt0 : Sl → Int → Int → AV → Int → Hp → Option (Unit × Hp)) (v1 : Sl) (v2 : Int) (v3 : Int) (v4 : AV) (v5 : Int) (v6 : Int) (v7 : Bool) (H : Hp) : Option (Unit × Hp) :=
  if v7 = true then
    (r125_j1 app kt0 v1 v2 v3 v4 v5 (w64 (v6 + 1)) H)
  else
    (r125_j1 app kt0 v1 v2 v3 v4 v5 v6 H)
noncomputable def r125_l0 (app : App) : Nat → Sl → Int → Int → AV → Int → Hp → Option (Unit × Hp)
  | 0, _, _, _, _, _, _ => none
  | k_ + 1, v1, v2, v3, v4, v5, H => if v2 ≤ (w64 ((w64 (2 * v5)) + 1)) then
    (some ((), H))
  else
    (if (w64 ((w64 ((w64 (2 * v5)) + 1)) + 1)) < v2 then
      (ck ((0 : Int) ≤ (w64 (v3 + (w64 ((w64 (2 * v5)) + 1)))) ∧ (w64 (v3 + (w64 ((w64 (2 * v5)) + 1)))) < (v1.len : Int)) (
      (H.ldI .i64 v1.b (v1.o + (w64 (v3 + (w64 ((w64 (2 * v5)) + 1))) : Int).toNat * 2)).bind fun x4 =>
      (H.ldI .i64 v1.b ((v1.o + (w64 (v3 + (w64 ((w64 (2 * v5)) + 1))) : Int).toNat * 2) + 1)).bind fun x5 =>
      ck ((0 : Int) ≤ (w64 ((w64 (v3 + (w64 ((w64 (2 * v5)) + 1)))) + 1)) ∧ (w64 ((w64 (v3 + (w64 ((w64 (2 * v5)) + 1)))) + 1)) < (v1.len : Int)) (
      (H.ldI .i64 v1.b (v1.o + (w64 ((w64 (v3 + (w64 ((w64 (2 * v5)) + 1)))) + 1) : Int).toNat * 2)).bind fun x7 =>
      (H.ldI .i64 v1.b ((v1.o + (w64 ((w64 (v3 + (w64 ((w64 (2 * v5)) + 1)))) + 1) : Int).toNat * 2) + 1)).bind fun x8 =>
      (callv app v4 [.agg [.int .i64 x4, .int .i64 x5], .agg [.int .i64 x7, .int .i64 x8]] H).bind fun p9 =>
      (p9.1.asI .i64).bind fun x10 =>
      r125_j2 app (fun v1_ v2_ v3_ v4_ v5_ H_ => r125_l0 app k_ v1_ v2_ v3_ v4_ v5_ H_) v1 v2 v3 v4 v5 (w64 ((w64 (2 * v5)) + 1)) (decide (x10 < 0)) p9.2)))
    else
      (r125_j2 app (fun v1_ v2_ v3_ v4_ v5_ H_ => r125_l0 app k_ v1_ v2_ v3_ v4_ v5_ H_) v1 v2 v3 v4 v5 (w64 ((w64 (2 * v5)) + 1)) false H))
noncomputable def r125 (app : App) (a0 : Sl) (a1 : Int) (a2 : Int) (a3 : Int) (a4 : AV) (H : Hp) : Option (Unit × Hp) :=
  r125_l0 app FUEL a0 a2 a3 a4 a1 H
/- 115 slices.heapSortCmpFunc[[2]int] -/
def ret115 : Unit → AV := fun _ => .tup []
noncomputable def r115_l1 (app : App) : Nat → Sl → AV → Int → Int → Int → Hp → Option (Unit × Hp)
  | 0, _, _, _, _, _, _ => none
  | k_ + 1, v1, v2, v3, v4, v5, H => if 0 ≤ v5 then
    (ck ((0 : Int) ≤ (w64 (v3 + v5)) ∧ (w64 (v3 + v5)) < (v1.len : Int)) (
    (H.ldI .i64 v1.b (v1.o + (w64 (v3 + v5) : Int).toNat * 2)).bind fun x3 =>
    (H.ldI .i64 v1.b ((v1.o + (w64 (v3 + v5) : Int).toNat * 2) + 1)).bind fun x4 =>
    ck ((0 : Int) ≤ v3 ∧ v3 < (v1.len : Int)) (
    (H.ldI .i64 v1.b (v1.o + (v3 : Int).toNat * 2)).bind fun x6 =>
    (H.ldI .i64 v1.b ((v1.o + (v3 : Int).toNat * 2) + 1)).bind fun x7 =>
    ck ((0 : Int) ≤ v3 ∧ v3 < (v1.len : Int)) (
    (H.sts v1.b (v1.o + (v3 : Int).toNat * 2) [.int .i64 x3, .int .i64 x4]).bind fun H9 =>
    ck ((0 : Int) ≤ (w64 (v3 + v5)) ∧ (w64 (v3 + v5)) < (v1.len : Int)) (
    (H9.sts v1.b (v1.o + (w64 (v3 + v5) : Int).toNat * 2) [.int .i64 x6, .int .i64 x7]).bind fun H11 =>
    (r125 app v1 v4 v5 v3 v2 H11).bind fun p12 =>
    r115_l1 app k_ v1 v2 v3 v4 (w64 (v5 - 1)) p12.2)))))
  else
    (some ((), H))
noncomputable def r115_l0 (app : App) : Nat → Sl → AV → Int → Int → Int → Int → Hp → Option (Unit × Hp)
  | 0, _, _, _, _, _, _, _ => none
  | k_ + 1, v1, v2, v3, v4, v5, v6, H => if 0 ≤ v6 then
    ((r125 app v1 v6 v5 v3 v2 H).bind fun p2 =>
    r115_l0 app k_ v1 v2 v3 v4 v5 (w64 (v6 - 1)) p2.2)
  else
    (r115_l1 app FUEL v1 v2 v3 v4 (w64 (v5 - 1)) H)
noncomputable def r115 (app : App) (a0 : Sl) (a1 : Int) (a2 : Int) (a3 : AV) (H : Hp) : Option (Unit × Hp) :=
  r115_l0 app FUEL a0 a3 a1 0 (w64 (a2 - a1)) (w64 (Int.tdiv (w64 ((w64 (a2 - a1)) - 1)) 2)) H
/- 122 math/bits.Len32 -/
def ret122 : Int → AV := fun r => .int .i64 r
noncomputable def r122_j0 (v1 : Int) (v2 : Int) (H : Hp) : Option (Int × Hp) :=
  ck ((0 : Int) ≤ (IntKind.wrap .u8 (v1)) ∧ (IntKind.wrap .u8 (v1)) < ((strC Try.f122 [1, 1, 1, 0] 3 0).size : Int)) (
  some (w64 (v2 + (w64 (bt (strC Try.f122 [1, 1, 1, 0] 3 0) (IntKind.wrap .u8 (v1))))), H))
noncomputable def r122_j1 (v1 : Int) (v2 : Int) (H : Hp) : Option (Int × Hp) :=
  if 256 ≤ v1 then
    (r122_j0 (shrOf .u32 v1 8) (w64 (v2 + 8)) H)
  else
    (r122_j0 v1 v2 H)
noncomputable def r122 (a0 : Int) (H : Hp) : Option (Int × Hp) :=
  if 65536 ≤ a0 then
    (r122_j1 (shrOf .u32 a0 16) 16 H)
  else
    (r122_j1 a0 0 H)
/- 123 math/bits.Len64 -/
def ret123 : Int → AV := fun r => .int .i64 r
noncomputable def r123_j0 (v1 : Int) (v2 : Int) (H : Hp) : Option (Int × Hp) :=
  ck ((0 : Int) ≤ (IntKind.wrap .u8 (v1)) ∧ (IntKind.wrap .u8 (v1)) < ((strC Try.f123 [1, 1, 1, 1, 0] 3 0).size : Int)) (
  some (w64 (v2 + (w64 (bt (strC Try.f123 [1, 1, 1, 1, 0] 3 0) (IntKind.wrap .u8 (v1))))), H))
noncomputable def r123_j1 (v1 : Int) (v2 : Int) (H : Hp) : Option (Int × Hp) :=
  if 256 ≤ v1 then
    (r123_j0 (shrOf .u64 v1 8) (w64 (v2 + 8)) H)
  else
    (r123_j0 v1 v2 H)
noncomputable def r123_j2 (v1 : Int) (v2 : Int) (H : Hp) : Option (Int × Hp) :=
  if 65536 ≤ v1 then
    (r123_j1 (shrOf .u64 v1 16) (w64 (v2 + 16)) H)
  else
    (r123_j1 v1 v2 H)
noncomputable def r123 (a0 : Int) (H : Hp) : Option (Int × Hp) :=
  if 4294967296 ≤ a0 then
    (r123_j2 (shrOf .u64 a0 32) 32 H)
  else
    (r123_j2 a0 0 H)
/- 105 math/bits.Len -/
def ret105 : Int → AV := fun r => .int .i64 r
noncomputable def r105 (a0 : Int) (H : Hp) : Option (Int × Hp) :=
  (r123 a0 H).bind fun p1 =>
  some (p1.1, p1.2)
/- 126 slices.nextPowerOfTwo -/
def ret126 : Int → AV := fun r => .int .u64 r
noncomputable def r126 (a0 : Int) (H : Hp) : Option (Int × Hp) :=
  (r105 (IntKind.wrap .u64 (a0)) H).bind fun p1 =>
  ck (¬ p1.1 < 0) (
  some (shlOf .u64 1 p1.1, p1.2))
/- 127 (*slices.xorshift).Next -/
def ret127 : Int → AV := fun r => .int .u64 r
noncomputable def r127 (a0b : Nat) (a0o : Nat) (H : Hp) : Option (Int × Hp) :=
  (H.ldI .u64 a0b a0o).bind fun x1 =>
  (H.ldI .u64 a0b a0o).bind fun x2 =>
  (H.st a0b a0o (.int .u64 (bitsOf .xor .u64 x1 (shlOf .u64 x2 13)))).bind fun H3 =>
  (H3.ldI .u64 a0b a0o).bind fun x4 =>
  (H3.ldI .u64 a0b a0o).bind fun x5 =>
  (H3.st a0b a0o (.int .u64 (bitsOf .xor .u64 x4 (shrOf .u64 x5 7)))).bind fun H6 =>
  (H6.ldI .u64 a0b a0o).bind fun x7 =>
  (H6.ldI .u64 a0b a0o).bind fun x8 =>
  (H6.st a0b a0o (.int .u64 (bitsOf .xor .u64 x7 (shlOf .u64 x8 17)))).bind fun H9 =>
  (H9.ldI .u64 a0b a0o).bind fun x10 =>
  some (x10, H9)
/- 116 slices.breakPatternsCmpFunc[[2]int] -/
def ret116 : Unit → AV := fun _ => .tup []
noncomputable def r116_j1 (kt0 : Sl → Int → Int → Nat → Int → Int → Hp → Option (Unit × Hp)) (v1 : Sl) (v2 : Int) (v3 : Int) (v4 : Nat) (v5 : Int) (v6 : Int) (v7 : Int) (H : Hp) : Option (Unit × Hp) :=
  ck ((0 : Int) ≤ (w64 (v2 + v7)) ∧ (w64 (v2 + v7)) < (v1.len : Int)) (
  (H.ldI .i64 v1.b (v1.o + (w64 (v2 + v7) : Int).toNat * 2)).bind fun x2 =>
  (H.ldI .i64 v1.b ((v1.o + (w64 (v2 + v7) : Int).toNat * 2) + 1)).bind fun x3 =>
  ck ((0 : Int) ≤ v6 ∧ v6 < (v1.len : Int)) (
  (H.ldI .i64 v1.b (v1.o + (v6 : Int).toNat * 2)).bind fun x5 =>
  (H.ldI .i64 v1.b ((v1.o + (v6 : Int).toNat * 2) + 1)).bind fun x6 =>
  ck ((0 : Int) ≤ v6 ∧ v6 < (v1.len : Int)) (
  (H.sts v1.b (v1.o + (v6 : Int).toNat * 2) [.int .i64 x2, .int .i64 x3]).bind fun H8 =>
  ck ((0 : Int) ≤ (w64 (v2 + v7)) ∧ (w64 (v2 + v7)) < (v1.len : Int)) (
  (H8.sts v1.b (v1.o + (w64 (v2 + v7) : Int).toNat * 2) [.int .i64 x5, .int .i64 x6]).bind fun H10 =>
  kt0 v1 v2 v3 v4 v5 (w64 (v6 + 1)) H10))))
noncomputable def r116_l0 : Nat → Sl → Int → Int → Nat → Int → Int → Hp → Option (Unit × Hp)
  | 0, _, _, _, _, _, _, _ => none
  | k_ + 1, v1, v2, v3, v4, v5, v6, H => if v6 ≤ (w64 ((w64 (v2 + (w64 ((w64 (Int.tdiv v3 4)) * 2)))) + 1)) then
    ((r127 v4 0 H).bind fun p2 =>
    if v3 ≤ (w64 (bitsOf .and .u64 p2.1 (IntKind.wrap .u64 (v5 - 1)))) then
      (r116_j1 (fun v1_ v2_ v3_ v4_ v5_ v6_ H_ => r116_l0 k_ v1_ v2_ v3_ v4_ v5_ v6_ H_) v1 v2 v3 v4 v5 v6 (w64 ((w64 (bitsOf .and .u64 p2.1 (IntKind.wrap .u64 (v5 - 1)))) - v3)) p2.2)
    else
      (r116_j1 (fun v1_ v2_ v3_ v4_ v5_ v6_ H_ => r116_l0 k_ v1_ v2_ v3_ v4_ v5_ v6_ H_) v1 v2 v3 v4 v5 v6 (w64 (bitsOf .and .u64 p2.1 (IntKind.wrap .u64 (v5 - 1)))) p2.2))
  else
    (some ((), H))
noncomputable def r116 (a0 : Sl) (a1 : Int) (a2 : Int) (a3 : AV) (H : Hp) : Option (Unit × Hp) :=
  if 8 ≤ (w64 (a2 - a1)) then
    (((H.push (.cells [.int .u64 0] false)).st H.n 0 (.int .u64 (IntKind.wrap .u64 (w64 (a2 - a1))))).bind fun H2 =>
    (r126 (w64 (a2 - a1)) H2).bind fun p3 =>
    r116_l0 FUEL a0 a1 (w64 (a2 - a1)) H.n p3.1 (w64 ((w64 (a1 + (w64 ((w64 (Int.tdiv (w64 (a2 - a1)) 4)) * 2)))) - 1)) p3.2)
  else
    (some ((), H))
/- 130 slices.order2CmpFunc[[2]int] -/
def ret130 : Int × Int → AV := fun r => .tup [.int .i64 r.1, .int .i64 r.2]
noncomputable def r130 (app : App) (a0 : Sl) (a1 : Int) (a2 : Int) (a3b : Nat) (a3o : Nat) (a4 : AV) (H : Hp) : Option ((Int × Int) × Hp) :=
  ck ((0 : Int) ≤ a2 ∧ a2 < (a0.len : Int)) (
  (H.ldI .i64 a0.b (a0.o + (a2 : Int).toNat * 2)).bind fun x2 =>
  (H.ldI .i64 a0.b ((a0.o + (a2 : Int).toNat * 2) + 1)).bind fun x3 =>
  ck ((0 : Int) ≤ a1 ∧ a1 < (a0.len : Int)) (
  (H.ldI .i64 a0.b (a0.o + (a1 : Int).toNat * 2)).bind fun x5 =>
  (H.ldI .i64 a0.b ((a0.o + (a1 : Int).toNat * 2) + 1)).bind fun x6 =>
  (callv app a4 [.agg [.int .i64 x2, .int .i64 x3], .agg [.int .i64 x5, .int .i64 x6]] H).bind fun p7 =>
  (p7.1.asI .i64).bind fun x8 =>
  if x8 < 0 then
    ((p7.2.ldI .i64 a3b a3o).bind fun x10 =>
    (p7.2.st a3b a3o (.int .i64 (w64 (x10 + 1)))).bind fun H11 =>
    some ((a2, a1), H11))
  else
    (some ((a1, a2), p7.2))))
/- 129 slices.medianCmpFunc[[2]int] -/
def ret129 : Int → AV := fun r => .int .i64 r
noncomputable def r129 (app : App) (a0 : Sl) (a1 : Int) (a2 : Int) (a3 : Int) (a4b : Nat) (a4o : Nat) (a5 : AV) (H : Hp) : Option (Int × Hp) :=
  (r130 app a0 a1 a2 a4b a4o a5 H).bind fun p1 =>
  (r130 app a0 p1.1.2 a3 a4b a4o a5 p1.2).bind fun p2 =>
  (r130 app a0 p1.1.1 p2.1.1 a4b a4o a5 p2.2).bind fun p3 =>
  some (p3.1.2, p3.2)
/- 128 slices.medianAdjacentCmpFunc[[2]int] -/
def ret128 : Int → AV := fun r => .int .i64 r
noncomputable def r128 (app : App) (a0 : Sl) (a1 : Int) (a2b : Nat) (a2o : Nat) (a3 : AV) (H : Hp) : Option (Int × Hp) :=
  (r129 app a0 (w64 (a1 - 1)) a1 (w64 (a1 + 1)) a2b a2o a3 H).bind fun p1 =>
  some (p1.1, p1.2)
/- 117 slices.choosePivotCmpFunc[[2]int] -/
def ret117 : Int × Int → AV := fun r => .tup [.int .i64 r.1, .int .i64 r.2]
noncomputable def r117_j1 (app : App) (v1 : Nat) (v2 : Int) (H : Hp) : Option ((Int × Int) × Hp) :=
  (H.ldI .i64 v1 0).bind fun x1 =>
  if x1 = 0 then
    (some ((v2, 1), H))
  else
    (if x1 = 12 then
      (some ((v2, 2), H))
    else
      (some ((v2, 0), H)))
noncomputable def r117_j0 (app : App) (v1 : Sl) (v2 : AV) (v3 : Nat) (v4 : Int) (v5 : Int) (v6 : Int) (H : Hp) : Option ((Int × Int) × Hp) :=
  (r129 app v1 v4 v5 v6 v3 0 v2 H).bind fun p1 =>
  r117_j1 app v3 p1.1 p1.2
noncomputable def r117 (app : App) (a0 : Sl) (a1 : Int) (a2 : Int) (a3 : AV) (H : Hp) : Option ((Int × Int) × Hp) :=
  lt (H.push (.cells [.int .i64 0] false)) fun H1 =>
  if 8 ≤ (w64 (a2 - a1)) then
    (if 50 ≤ (w64 (a2 - a1)) then
      ((r128 app a0 (w64 (a1 + (w64 ((w64 (Int.tdiv (w64 (a2 - a1)) 4)) * 1)))) H.n 0 a3 H1).bind fun p4 =>
      (r128 app a0 (w64 (a1 + (w64 ((w64 (Int.tdiv (w64 (a2 - a1)) 4)) * 2)))) H.n 0 a3 p4.2).bind fun p5 =>
      (r128 app a0 (w64 (a1 + (w64 ((w64 (Int.tdiv (w64 (a2 - a1)) 4)) * 3)))) H.n 0 a3 p5.2).bind fun p6 =>
      r117_j0 app a0 a3 H.n p4.1 p5.1 p6.1 p6.2)
    else
      (r117_j0 app a0 a3 H.n (w64 (a1 + (w64 ((w64 (Int.tdiv (w64 (a2 - a1)) 4)) * 1)))) (w64 (a1 + (w64 ((w64 (Int.tdiv (w64 (a2 - a1)) 4)) * 2)))) (w64 (a1 + (w64 ((w64 (Int.tdiv (w64 (a2 - a1)) 4)) * 3)))) H1))
  else
    (r117_j1 app H.n (w64 (a1 + (w64 ((w64 (Int.tdiv (w64 (a2 - a1)) 4)) * 2)))) H1)
/- 118 slices.reverseRangeCmpFunc[[2]int] -/
def ret118 : Unit → AV := fun _ => .tup []
noncomputable def r118_l0 : Nat → Sl → Int → Int → Hp → Option (Unit × Hp)
  | 0, _, _, _, _ => none
  | k_ + 1, v1, v2, v3, H => if v2 < v3 then
    (ck ((0 : Int) ≤ v3 ∧ v3 < (v1.len : Int)) (
    (H.ldI .i64 v1.b (v1.o + (v3 : Int).toNat * 2)).bind fun x3 =>
    (H.ldI .i64 v1.b ((v1.o + (v3 : Int).toNat * 2) + 1)).bind fun x4 =>
    ck ((0 : Int) ≤ v2 ∧ v2 < (v1.len : Int)) (
    (H.ldI .i64 v1.b (v1.o + (v2 : Int).toNat * 2)).bind fun x6 =>
    (H.ldI .i64 v1.b ((v1.o + (v2 : Int).toNat * 2) + 1)).bind fun x7 =>
    ck ((0 : Int) ≤ v2 ∧ v2 < (v1.len : Int)) (
    (H.sts v1.b (v1.o + (v2 : Int).toNat * 2) [.int .i64 x3, .int .i64 x4]).bind fun H9 =>
    ck ((0 : Int) ≤ v3 ∧ v3 < (v1.len : Int)) (
    (H9.sts v1.b (v1.o + (v3 : Int).toNat * 2) [.int .i64 x6, .int .i64 x7]).bind fun H11 =>
    r118_l0 k_ v1 (w64 (v2 + 1)) (w64 (v3 - 1)) H11)))))
  else
    (some ((), H))
noncomputable def r118 (a0 : Sl) (a1 : Int) (a2 : Int) (a3 : AV) (H : Hp) : Option (Unit × Hp) :=
  r118_l0 FUEL a0 a1 (w64 (a2 - 1)) H
/- 119 slices.partialInsertionSortCmpFunc[[2]int] -/
def ret119 : Bool → AV := fun r => .bool r
noncomputable def r119_l3 (app : App) (kt0 : Sl → Int → Int → AV → Int → Int → Hp → Option (Bool × Hp)) : Nat → Sl → Int → Int → AV → Int → Int → Int → Hp → Option (Bool × Hp)
  | 0, _, _, _, _, _, _, _, _ => none
  | k_ + 1, v1, v2, v3, v4, v5, v6, v7, H => if v7 < v3 then
    (ck ((0 : Int) ≤ v7 ∧ v7 < (v1.len : Int)) (
    (H.ldI .i64 v1.b (v1.o + (v7 : Int).toNat * 2)).bind fun x3 =>
    (H.ldI .i64 v1.b ((v1.o + (v7 : Int).toNat * 2) + 1)).bind fun x4 =>
    ck ((0 : Int) ≤ (w64 (v7 - 1)) ∧ (w64 (v7 - 1)) < (v1.len : Int)) (
    (H.ldI .i64 v1.b (v1.o + (w64 (v7 - 1) : Int).toNat * 2)).bind fun x6 =>
    (H.ldI .i64 v1.b ((v1.o + (w64 (v7 - 1) : Int).toNat * 2) + 1)).bind fun x7 =>
    (callv app v4 [.agg [.int .i64 x3, .int .i64 x4], .agg [.int .i64 x6, .int .i64 x7]] H).bind fun p8 =>
    (p8.1.asI .i64).bind fun x9 =>
    if x9 < 0 then
      (ck ((0 : Int) ≤ (w64 (v7 - 1)) ∧ (w64 (v7 - 1)) < (v1.len : Int)) (
      (p8.2.ldI .i64 v1.b (v1.o + (w64 (v7 - 1) : Int).toNat * 2)).bind fun x12 =>
      (p8.2.ldI .i64 v1.b ((v1.o + (w64 (v7 - 1) : Int).toNat * 2) + 1)).bind fun x13 =>
      ck ((0 : Int) ≤ v7 ∧ v7 < (v1.len : Int)) (
      (p8.2.ldI .i64 v1.b (v1.o + (v7 : Int).toNat * 2)).bind fun x15 =>
      (p8.2.ldI .i64 v1.b ((v1.o + (v7 : Int).toNat * 2) + 1)).bind fun x16 =>
      ck ((0 : Int) ≤ v7 ∧ v7 < (v1.len : Int)) (
      (p8.2.sts v1.b (v1.o + (v7 : Int).toNat * 2) [.int .i64 x12, .int .i64 x13]).bind fun H18 =>
      ck ((0 : Int) ≤ (w64 (v7 - 1)) ∧ (w64 (v7 - 1)) < (v1.len : Int)) (
      (H18.sts v1.b (v1.o + (w64 (v7 - 1) : Int).toNat * 2) [.int .i64 x15, .int .i64 x16]).bind fun H20 =>
      r119_l3 app kt0 k_ v1 v2 v3 v4 v5 v6 (w64 (v7 + 1)) H20)))))
    else
      (kt0 v1 v2 v3 v4 v5 (w64 (v6 + 1)) p8.2))))
  else
    (kt0 v1 v2 v3 v4 v5 (w64 (v6 + 1)) H)
noncomputable def r119_j5 (app : App) (kt0 : Sl → Int → Int → AV → Int → Int → Hp → Option (Bool × Hp)) (v1 : Sl) (v2 : Int) (v3 : Int) (v4 : AV) (v5 : Int) (v6 : Int) (H : Hp) : Option (Bool × Hp) :=
  if 2 ≤ (w64 (v3 - v5)) then
    (r119_l3 app kt0 FUEL v1 v2 v3 v4 v5 v6 (w64 (v5 + 1)) H)
  else
    (kt0 v1 v2 v3 v4 v5 (w64 (v6 + 1)) H)
noncomputable def r119_l2 (app : App) (kt0 : Sl → Int → Int → AV → Int → Int → Hp → Option (Bool × Hp)) : Nat → Sl → Int → Int → AV → Int → Int → Int → Hp → Option (Bool × Hp)
  | 0, _, _, _, _, _, _, _, _ => none
  | k_ + 1, v1, v2, v3, v4, v5, v6, v7, H => if 1 ≤ v7 then
    (ck ((0 : Int) ≤ v7 ∧ v7 < (v1.len : Int)) (
    (H.ldI .i64 v1.b (v1.o + (v7 : Int).toNat * 2)).bind fun x3 =>
    (H.ldI .i64 v1.b ((v1.o + (v7 : Int).toNat * 2) + 1)).bind fun x4 =>
    ck ((0 : Int) ≤ (w64 (v7 - 1)) ∧ (w64 (v7 - 1)) < (v1.len : Int)) (
    (H.ldI .i64 v1.b (v1.o + (w64 (v7 - 1) : Int).toNat * 2)).bind fun x6 =>
    (H.ldI .i64 v1.b ((v1.o + (w64 (v7 - 1) : Int).toNat * 2) + 1)).bind fun x7 =>
    (callv app v4 [.agg [.int .i64 x3, .int .i64 x4], .agg [.int .i64 x6, .int .i64 x7]] H).bind fun p8 =>
    (p8.1.asI .i64).bind fun x9 =>
    if x9 < 0 then
      (ck ((0 : Int) ≤ (w64 (v7 - 1)) ∧ (w64 (v7 - 1)) < (v1.len : Int)) (
      (p8.2.ldI .i64 v1.b (v1.o + (w64 (v7 - 1) : Int).toNat * 2)).bind fun x12 =>
      (p8.2.ldI .i64 v1.b ((v1.o + (w64 (v7 - 1) : Int).toNat * 2) + 1)).bind fun x13 =>
      ck ((0 : Int) ≤ v7 ∧ v7 < (v1.len : Int)) (
      (p8.2.ldI .i64 v1.b (v1.o + (v7 : Int).toNat * 2)).bind fun x15 =>
      (p8.2.ldI .i64 v1.b ((v1.o + (v7 : Int).toNat * 2) + 1)).bind fun x16 =>
      ck ((0 : Int) ≤ v7 ∧ v7 < (v1.len : Int)) (
      (p8.2.sts v1.b (v1.o + (v7 : Int).toNat * 2) [.int .i64 x12, .int .i64 x13]).bind fun H18 =>
      ck ((0 : Int) ≤ (w64 (v7 - 1)) ∧ (w64 (v7 - 1)) < (v1.len : Int)) (
      (H18.sts v1.b (v1.o + (w64 (v7 - 1) : Int).toNat * 2) [.int .i64 x15, .int .i64 x16]).bind fun H20 =>
      r119_l2 app kt0 k_ v1 v2 v3 v4 v5 v6 (w64 (v7 - 1)) H20)))))
    else
      (r119_j5 app kt0 v1 v2 v3 v4 v5 v6 p8.2))))
  else
    (r119_j5 app kt0 v1 v2 v3 v4 v5 v6 H)
noncomputable def r119_j4 (app : App) (kt0 : Sl → Int → Int → AV → Int → Int → Hp → Option (Bool × Hp)) (kt1 : Sl → Int → Int → AV → Int → Int → Hp → Option (Bool × Hp)) (v1 : Sl) (v2 : Int) (v3 : Int) (v4 : AV) (v5 : Int) (v6 : Int) (v7 : Bool) (H : Hp) : Option (Bool × Hp) :=
  if v7 = true then
    (kt1 v1 v2 v3 v4 (w64 (v5 + 1)) v6 H)
  else
    (if v5 = v3 then
      (some (true, H))
    else
      (if (w64 (v3 - v2)) < 50 then
        (some (false, H))
      else
        (ck ((0 : Int) ≤ (w64 (v5 - 1)) ∧ (w64 (v5 - 1)) < (v1.len : Int)) (
        (H.ldI .i64 v1.b (v1.o + (w64 (v5 - 1) : Int).toNat * 2)).bind fun x5 =>
        (H.ldI .i64 v1.b ((v1.o + (w64 (v5 - 1) : Int).toNat * 2) + 1)).bind fun x6 =>
        ck ((0 : Int) ≤ v5 ∧ v5 < (v1.len : Int)) (
        (H.ldI .i64 v1.b (v1.o + (v5 : Int).toNat * 2)).bind fun x8 =>
        (H.ldI .i64 v1.b ((v1.o + (v5 : Int).toNat * 2) + 1)).bind fun x9 =>
        ck ((0 : Int) ≤ v5 ∧ v5 < (v1.len : Int)) (
        (H.sts v1.b (v1.o + (v5 : Int).toNat * 2) [.int .i64 x5, .int .i64 x6]).bind fun H11 =>
        ck ((0 : Int) ≤ (w64 (v5 - 1)) ∧ (w64 (v5 - 1)) < (v1.len : Int)) (
        (H11.sts v1.b (v1.o + (w64 (v5 - 1) : Int).toNat * 2) [.int .i64 x8, .int .i64 x9]).bind fun H13 =>
        if 2 ≤ (w64 (v5 - v2)) then
          (r119_l2 app kt0 FUEL v1 v2 v3 v4 v5 v6 (w64 (v5 - 1)) H13)
        else
          (r119_j5 app kt0 v1 v2 v3 v4 v5 v6 H13))))))))
noncomputable def r119_l1 (app : App) (kt0 : Sl → Int → Int → AV → Int → Int → Hp → Option (Bool × Hp)) : Nat → Sl → Int → Int → AV → Int → Int → Hp → Option (Bool × Hp)
  | 0, _, _, _, _, _, _, _ => none
  | k_ + 1, v1, v2, v3, v4, v5, v6, H => if v5 < v3 then
    (ck ((0 : Int) ≤ v5 ∧ v5 < (v1.len : Int)) (
    (H.ldI .i64 v1.b (v1.o + (v5 : Int).toNat * 2)).bind fun x3 =>
    (H.ldI .i64 v1.b ((v1.o + (v5 : Int).toNat * 2) + 1)).bind fun x4 =>
    ck ((0 : Int) ≤ (w64 (v5 - 1)) ∧ (w64 (v5 - 1)) < (v1.len : Int)) (
    (H.ldI .i64 v1.b (v1.o + (w64 (v5 - 1) : Int).toNat * 2)).bind fun x6 =>
    (H.ldI .i64 v1.b ((v1.o + (w64 (v5 - 1) : Int).toNat * 2) + 1)).bind fun x7 =>
    (callv app v4 [.agg [.int .i64 x3, .int .i64 x4], .agg [.int .i64 x6, .int .i64 x7]] H).bind fun p8 =>
    (p8.1.asI .i64).bind fun x9 =>
    r119_j4 app kt0 (fun v1_ v2_ v3_ v4_ v5_ v6_ H_ => r119_l1 app kt0 k_ v1_ v2_ v3_ v4_ v5_ v6_ H_) v1 v2 v3 v4 v5 v6 (!(decide (x9 < 0))) p8.2)))
  else
    (r119_j4 app kt0 (fun v1_ v2_ v3_ v4_ v5_ v6_ H_ => r119_l1 app kt0 k_ v1_ v2_ v3_ v4_ v5_ v6_ H_) v1 v2 v3 v4 v5 v6 false H)
noncomputable def r119_l0 (app : App) : Nat → Sl → Int → Int → AV → Int → Int → Hp → Option (Bool × Hp)
  | 0, _, _, _, _, _, _, _ => none
  | k_ + 1, v1, v2, v3, v4, v5, v6, H => if v6 < 5 then
    (r119_l1 app (fun v1_ v2_ v3_ v4_ v5_ v6_ H_ => r119_l0 app k_ v1_ v2_ v3_ v4_ v5_ v6_ H_) FUEL v1 v2 v3 v4 v5 v6 H)
  else
    (some (false, H))
noncomputable def r119 (app : App) (a0 : Sl) (a1 : Int) (a2 : Int) (a3 : AV) (H : Hp) : Option (Bool × Hp) :=
  r119_l0 app FUEL a0 a1 a2 a3 (w64 (a1 + 1)) 0 H
/- 120 slices.partitionEqualCmpFunc[[2]int] -/
def ret120 : Int → AV := fun r => .int .i64 r
noncomputable def r120_j4 (app : App) (kt0 : Sl → Int → AV → Int → Int → Hp → Option (Int × Hp)) (kt2 : Sl → Int → AV → Int → Int → Hp → Option (Int × Hp)) (v1 : Sl) (v2 : Int) (v3 : AV) (v4 : Int) (v5 : Int) (v6 : Bool) (H : Hp) : Option (Int × Hp) :=
  if v6 = true then
    (kt2 v1 v2 v3 v4 (w64 (v5 - 1)) H)
  else
    (if v5 < v4 then
      (some (v4, H))
    else
      (ck ((0 : Int) ≤ v5 ∧ v5 < (v1.len : Int)) (
      (H.ldI .i64 v1.b (v1.o + (v5 : Int).toNat * 2)).bind fun x4 =>
      (H.ldI .i64 v1.b ((v1.o + (v5 : Int).toNat * 2) + 1)).bind fun x5 =>
      ck ((0 : Int) ≤ v4 ∧ v4 < (v1.len : Int)) (
      (H.ldI .i64 v1.b (v1.o + (v4 : Int).toNat * 2)).bind fun x7 =>
      (H.ldI .i64 v1.b ((v1.o + (v4 : Int).toNat * 2) + 1)).bind fun x8 =>
      ck ((0 : Int) ≤ v4 ∧ v4 < (v1.len : Int)) (
      (H.sts v1.b (v1.o + (v4 : Int).toNat * 2) [.int .i64 x4, .int .i64 x5]).bind fun H10 =>
      ck ((0 : Int) ≤ v5 ∧ v5 < (v1.len : Int)) (
      (H10.sts v1.b (v1.o + (v5 : Int).toNat * 2) [.int .i64 x7, .int .i64 x8]).bind fun H12 =>
      kt0 v1 v2 v3 (w64 (v4 + 1)) (w64 (v5 - 1)) H12))))))
noncomputable def r120_l2 (app : App) (kt0 : Sl → Int → AV → Int → Int → Hp → Option (Int × Hp)) : Nat → Sl → Int → AV → Int → Int → Hp → Option (Int × Hp)
  | 0, _, _, _, _, _, _ => none
  | k_ + 1, v1, v2, v3, v4, v5, H => if v4 ≤ v5 then
    (ck ((0 : Int) ≤ v2 ∧ v2 < (v1.len : Int)) (
    (H.ldI .i64 v1.b (v1.o + (v2 : Int).toNat * 2)).bind fun x3 =>
    (H.ldI .i64 v1.b ((v1.o + (v2 : Int).toNat * 2) + 1)).bind fun x4 =>
    ck ((0 : Int) ≤ v5 ∧ v5 < (v1.len : Int)) (
    (H.ldI .i64 v1.b (v1.o + (v5 : Int).toNat * 2)).bind fun x6 =>
    (H.ldI .i64 v1.b ((v1.o + (v5 : Int).toNat * 2) + 1)).bind fun x7 =>
    (callv app v3 [.agg [.int .i64 x3, .int .i64 x4], .agg [.int .i64 x6, .int .i64 x7]] H).bind fun p8 =>
    (p8.1.asI .i64).bind fun x9 =>
    r120_j4 app kt0 (fun v1_ v2_ v3_ v4_ v5_ H_ => r120_l2 app kt0 k_ v1_ v2_ v3_ v4_ v5_ H_) v1 v2 v3 v4 v5 (decide (x9 < 0)) p8.2)))
  else
    (r120_j4 app kt0 (fun v1_ v2_ v3_ v4_ v5_ H_ => r120_l2 app kt0 k_ v1_ v2_ v3_ v4_ v5_ H_) v1 v2 v3 v4 v5 false H)
noncomputable def r120_j3 (app : App) (kt0 : Sl → Int → AV → Int → Int → Hp → Option (Int × Hp)) (kt1 : Sl → Int → AV → Int → Int → Hp → Option (Int × Hp)) (v1 : Sl) (v2 : Int) (v3 : AV) (v4 : Int) (v5 : Int) (v6 : Bool) (H : Hp) : Option (Int × Hp) :=
  if v6 = true then
    (kt1 v1 v2 v3 (w64 (v4 + 1)) v5 H)
  else
    (r120_l2 app kt0 FUEL v1 v2 v3 v4 v5 H)
noncomputable def r120_l1 (app : App) (kt0 : Sl → Int → AV → Int → Int → Hp → Option (Int × Hp)) : Nat → Sl → Int → AV → Int → Int → Hp → Option (Int × Hp)
  | 0, _, _, _, _, _, _ => none
  | k_ + 1, v1, v2, v3, v4, v5, H => if v4 ≤ v5 then
    (ck ((0 : Int) ≤ v2 ∧ v2 < (v1.len : Int)) (
    (H.ldI .i64 v1.b (v1.o + (v2 : Int).toNat * 2)).bind fun x3 =>
    (H.ldI .i64 v1.b ((v1.o + (v2 : Int).toNat * 2) + 1)).bind fun x4 =>
    ck ((0 : Int) ≤ v4 ∧ v4 < (v1.len : Int)) (
    (H.ldI .i64 v1.b (v1.o + (v4 : Int).toNat * 2)).bind fun x6 =>
    (H.ldI .i64 v1.b ((v1.o + (v4 : Int).toNat * 2) + 1)).bind fun x7 =>
    (callv app v3 [.agg [.int .i64 x3, .int .i64 x4], .agg [.int .i64 x6, .int .i64 x7]] H).bind fun p8 =>
    (p8.1.asI .i64).bind fun x9 =>
    r120_j3 app kt0 (fun v1_ v2_ v3_ v4_ v5_ H_ => r120_l1 app kt0 k_ v1_ v2_ v3_ v4_ v5_ H_) v1 v2 v3 v4 v5 (!(decide (x9 < 0))) p8.2)))
  else
    (r120_j3 app kt0 (fun v1_ v2_ v3_ v4_ v5_ H_ => r120_l1 app kt0 k_ v1_ v2_ v3_ v4_ v5_ H_) v1 v2 v3 v4 v5 false H)
noncomputable def r120_l0 (app : App) : Nat → Sl → Int → AV → Int → Int → Hp → Option (Int × Hp)
  | 0, _, _, _, _, _, _ => none
  | k_ + 1, v1, v2, v3, v4, v5, H => r120_l1 app (fun v1_ v2_ v3_ v4_ v5_ H_ => r120_l0 app k_ v1_ v2_ v3_ v4_ v5_ H_) FUEL v1 v2 v3 v4 v5 H
noncomputable def r120 (app : App) (a0 : Sl) (a1 : Int) (a2 : Int) (a3 : Int) (a4 : AV) (H : Hp) : Option (Int × Hp) :=
  ck ((0 : Int) ≤ a3 ∧ a3 < (a0.len : Int)) (
  (H.ldI .i64 a0.b (a0.o + (a3 : Int).toNat * 2)).bind fun x2 =>
  (H.ldI .i64 a0.b ((a0.o + (a3 : Int).toNat * 2) + 1)).bind fun x3 =>
  ck ((0 : Int) ≤ a1 ∧ a1 < (a0.len : Int)) (
  (H.ldI .i64 a0.b (a0.o + (a1 : Int).toNat * 2)).bind fun x5 =>
  (H.ldI .i64 a0.b ((a0.o + (a1 : Int).toNat * 2) + 1)).bind fun x6 =>
  ck ((0 : Int) ≤ a1 ∧ a1 < (a0.len : Int)) (
  (H.sts a0.b (a0.o + (a1 : Int).toNat * 2) [.int .i64 x2, .int .i64 x3]).bind fun H8 =>
  ck ((0 : Int) ≤ a3 ∧ a3 < (a0.len : Int)) (
  (H8.sts a0.b (a0.o + (a3 : Int).toNat * 2) [.int .i64 x5, .int .i64 x6]).bind fun H10 =>
  r120_l0 app FUEL a0 a1 a4 (w64 (a1 + 1)) (w64 (a2 - 1)) H10))))
/- 121 slices.partitionCmpFunc[[2]int] -/
def ret121 : Int × Bool → AV := fun r => .tup [.int .i64 r.1, .bool r.2]
noncomputable def r121_j8 (app : App) (kt3 : Sl → Int → AV → Int → Int → Hp → Option ((Int × Bool) × Hp)) (kt6 : Sl → Int → AV → Int → Int → Hp → Option ((Int × Bool) × Hp)) (v1 : Sl) (v2 : Int) (v3 : AV) (v4 : Int) (v5 : Int) (v6 : Bool) (H : Hp) : Option ((Int × Bool) × Hp) :=
  if v6 = true then
    (kt6 v1 v2 v3 v4 (w64 (v5 - 1)) H)
  else
    (if v5 < v4 then
      (ck ((0 : Int) ≤ v2 ∧ v2 < (v1.len : Int)) (
      (H.ldI .i64 v1.b (v1.o + (v2 : Int).toNat * 2)).bind fun x4 =>
      (H.ldI .i64 v1.b ((v1.o + (v2 : Int).toNat * 2) + 1)).bind fun x5 =>
      ck ((0 : Int) ≤ v5 ∧ v5 < (v1.len : Int)) (
      (H.ldI .i64 v1.b (v1.o + (v5 : Int).toNat * 2)).bind fun x7 =>
      (H.ldI .i64 v1.b ((v1.o + (v5 : Int).toNat * 2) + 1)).bind fun x8 =>
      ck ((0 : Int) ≤ v5 ∧ v5 < (v1.len : Int)) (
      (H.sts v1.b (v1.o + (v5 : Int).toNat * 2) [.int .i64 x4, .int .i64 x5]).bind fun H10 =>
      ck ((0 : Int) ≤ v2 ∧ v2 < (v1.len : Int)) (
      (H10.sts v1.b (v1.o + (v2 : Int).toNat * 2) [.int .i64 x7, .int .i64 x8]).bind fun H12 =>
      some ((v5, false), H12))))))
    else
      (ck ((0 : Int) ≤ v5 ∧ v5 < (v1.len : Int)) (
      (H.ldI .i64 v1.b (v1.o + (v5 : Int).toNat * 2)).bind fun x14 =>
      (H.ldI .i64 v1.b ((v1.o + (v5 : Int).toNat * 2) + 1)).bind fun x15 =>
      ck ((0 : Int) ≤ v4 ∧ v4 < (v1.len : Int)) (
      (H.ldI .i64 v1.b (v1.o + (v4 : Int).toNat * 2)).bind fun x17 =>
      (H.ldI .i64 v1.b ((v1.o + (v4 : Int).toNat * 2) + 1)).bind fun x18 =>
      ck ((0 : Int) ≤ v4 ∧ v4 < (v1.len : Int)) (
      (H.sts v1.b (v1.o + (v4 : Int).toNat * 2) [.int .i64 x14, .int .i64 x15]).bind fun H20 =>
      ck ((0 : Int) ≤ v5 ∧ v5 < (v1.len : Int)) (
      (H20.sts v1.b (v1.o + (v5 : Int).toNat * 2) [.int .i64 x17, .int .i64 x18]).bind fun H22 =>
      kt3 v1 v2 v3 (w64 (v4 + 1)) (w64 (v5 - 1)) H22))))))
noncomputable def r121_l6 (app : App) (kt3 : Sl → Int → AV → Int → Int → Hp → Option ((Int × Bool) × Hp)) : Nat → Sl → Int → AV → Int → Int → Hp → Option ((Int × Bool) × Hp)
  | 0, _, _, _, _, _, _ => none
  | k_ + 1, v1, v2, v3, v4, v5, H => if v4 ≤ v5 then
    (ck ((0 : Int) ≤ v5 ∧ v5 < (v1.len : Int)) (
    (H.ldI .i64 v1.b (v1.o + (v5 : Int).toNat * 2)).bind fun x3 =>
    (H.ldI .i64 v1.b ((v1.o + (v5 : Int).toNat * 2) + 1)).bind fun x4 =>
    ck ((0 : Int) ≤ v2 ∧ v2 < (v1.len : Int)) (
    (H.ldI .i64 v1.b (v1.o + (v2 : Int).toNat * 2)).bind fun x6 =>
    (H.ldI .i64 v1.b ((v1.o + (v2 : Int).toNat * 2) + 1)).bind fun x7 =>
    (callv app v3 [.agg [.int .i64 x3, .int .i64 x4], .agg [.int .i64 x6, .int .i64 x7]] H).bind fun p8 =>
    (p8.1.asI .i64).bind fun x9 =>
    r121_j8 app kt3 (fun v1_ v2_ v3_ v4_ v5_ H_ => r121_l6 app kt3 k_ v1_ v2_ v3_ v4_ v5_ H_) v1 v2 v3 v4 v5 (!(decide (x9 < 0))) p8.2)))
  else
    (r121_j8 app kt3 (fun v1_ v2_ v3_ v4_ v5_ H_ => r121_l6 app kt3 k_ v1_ v2_ v3_ v4_ v5_ H_) v1 v2 v3 v4 v5 false H)
noncomputable def r121_j7 (app : App) (kt3 : Sl → Int → AV → Int → Int → Hp → Option ((Int × Bool) × Hp)) (kt5 : Sl → Int → AV → Int → Int → Hp → Option ((Int × Bool) × Hp)) (v1 : Sl) (v2 : Int) (v3 : AV) (v4 : Int) (v5 : Int) (v6 : Bool) (H : Hp) : Option ((Int × Bool) × Hp) :=
  if v6 = true then
    (kt5 v1 v2 v3 (w64 (v4 + 1)) v5 H)
  else
    (r121_l6 app kt3 FUEL v1 v2 v3 v4 v5 H)
noncomputable def r121_l5 (app : App) (kt3 : Sl → Int → AV → Int → Int → Hp → Option ((Int × Bool) × Hp)) : Nat → Sl → Int → AV → Int → Int → Hp → Option ((Int × Bool) × Hp)
  | 0, _, _, _, _, _, _ => none
  | k_ + 1, v1, v2, v3, v4, v5, H => if v4 ≤ v5 then
    (ck ((0 : Int) ≤ v4 ∧ v4 < (v1.len : Int)) (
    (H.ldI .i64 v1.b (v1.o + (v4 : Int).toNat * 2)).bind fun x3 =>
    (H.ldI .i64 v1.b ((v1.o + (v4 : Int).toNat * 2) + 1)).bind fun x4 =>
    ck ((0 : Int) ≤ v2 ∧ v2 < (v1.len : Int)) (
    (H.ldI .i64 v1.b (v1.o + (v2 : Int).toNat * 2)).bind fun x6 =>
    (H.ldI .i64 v1.b ((v1.o + (v2 : Int).toNat * 2) + 1)).bind fun x7 =>
    (callv app v3 [.agg [.int .i64 x3, .int .i64 x4], .agg [.int .i64 x6, .int .i64 x7]] H).bind fun p8 =>
    (p8.1.asI .i64).bind fun x9 =>
    r121_j7 app kt3 (fun v1_ v2_ v3_ v4_ v5_ H_ => r121_l5 app kt3 k_ v1_ v2_ v3_ v4_ v5_ H_) v1 v2 v3 v4 v5 (decide (x9 < 0)) p8.2)))
  else
    (r121_j7 app kt3 (fun v1_ v2_ v3_ v4_ v5_ H_ => r121_l5 app kt3 k_ v1_ v2_ v3_ v4_ v5_ H_) v1 v2 v3 v4 v5 false H)
noncomputable def r121_l3 (app : App) : Nat → Sl → Int → AV → Int → Int → Hp → Option ((Int × Bool) × Hp)
  | 0, _, _, _, _, _, _ => none
  | k_ + 1, v1, v2, v3, v4, v5, H => r121_l5 app (fun v1_ v2_ v3_ v4_ v5_ H_ => r121_l3 app k_ v1_ v2_ v3_ v4_ v5_ H_) FUEL v1 v2 v3 v4 v5 H
noncomputable def r121_j4 (app : App) (kt1 : Sl → Int → AV → Int → Int → Hp → Option ((Int × Bool) × Hp)) (v1 : Sl) (v2 : Int) (v3 : AV) (v4 : Int) (v5 : Int) (v6 : Bool) (H : Hp) : Option ((Int × Bool) × Hp) :=
  if v6 = true then
    (kt1 v1 v2 v3 v4 (w64 (v5 - 1)) H)
  else
    (if v5 < v4 then
      (ck ((0 : Int) ≤ v2 ∧ v2 < (v1.len : Int)) (
      (H.ldI .i64 v1.b (v1.o + (v2 : Int).toNat * 2)).bind fun x4 =>
      (H.ldI .i64 v1.b ((v1.o + (v2 : Int).toNat * 2) + 1)).bind fun x5 =>
      ck ((0 : Int) ≤ v5 ∧ v5 < (v1.len : Int)) (
      (H.ldI .i64 v1.b (v1.o + (v5 : Int).toNat * 2)).bind fun x7 =>
      (H.ldI .i64 v1.b ((v1.o + (v5 : Int).toNat * 2) + 1)).bind fun x8 =>
      ck ((0 : Int) ≤ v5 ∧ v5 < (v1.len : Int)) (
      (H.sts v1.b (v1.o + (v5 : Int).toNat * 2) [.int .i64 x4, .int .i64 x5]).bind fun H10 =>
      ck ((0 : Int) ≤ v2 ∧ v2 < (v1.len : Int)) (
      (H10.sts v1.b (v1.o + (v2 : Int).toNat * 2) [.int .i64 x7, .int .i64 x8]).bind fun H12 =>
      some ((v5, true), H12))))))
    else
      (ck ((0 : Int) ≤ v5 ∧ v5 < (v1.len : Int)) (
      (H.ldI .i64 v1.b (v1.o + (v5 : Int).toNat * 2)).bind fun x14 =>
      (H.ldI .i64 v1.b ((v1.o + (v5 : Int).toNat * 2) + 1)).bind fun x15 =>
      ck ((0 : Int) ≤ v4 ∧ v4 < (v1.len : Int)) (
      (H.ldI .i64 v1.b (v1.o + (v4 : Int).toNat * 2)).bind fun x17 =>
      (H.ldI .i64 v1.b ((v1.o + (v4 : Int).toNat * 2) + 1)).bind fun x18 =>
      ck ((0 : Int) ≤ v4 ∧ v4 < (v1.len : Int)) (
      (H.sts v1.b (v1.o + (v4 : Int).toNat * 2) [.int .i64 x14, .int .i64 x15]).bind fun H20 =>
      ck ((0 : Int) ≤ v5 ∧ v5 < (v1.len : Int)) (
      (H20.sts v1.b (v1.o + (v5 : Int).toNat * 2) [.int .i64 x17, .int .i64 x18]).bind fun H22 =>
      r121_l3 app FUEL v1 v2 v3 (w64 (v4 + 1)) (w64 (v5 - 1)) H22))))))
noncomputable def r121_l1 (app : App) : Nat → Sl → Int → AV → Int → Int → Hp → Option ((Int × Bool) × Hp)
  | 0, _, _, _, _, _, _ => none
  | k_ + 1, v1, v2, v3, v4, v5, H => if v4 ≤ v5 then
    (ck ((0 : Int) ≤ v5 ∧ v5 < (v1.len : Int)) (
    (H.ldI .i64 v1.b (v1.o + (v5 : Int).toNat * 2)).bind fun x3 =>
    (H.ldI .i64 v1.b ((v1.o + (v5 : Int).toNat * 2) + 1)).bind fun x4 =>
    ck ((0 : Int) ≤ v2 ∧ v2 < (v1.len : Int)) (
    (H.ldI .i64 v1.b (v1.o + (v2 : Int).toNat * 2)).bind fun x6 =>
    (H.ldI .i64 v1.b ((v1.o + (v2 : Int).toNat * 2) + 1)).bind fun x7 =>
    (callv app v3 [.agg [.int .i64 x3, .int .i64 x4], .agg [.int .i64 x6, .int .i64 x7]] H).bind fun p8 =>
    (p8.1.asI .i64).bind fun x9 =>
    r121_j4 app (fun v1_ v2_ v3_ v4_ v5_ H_ => r121_l1 app k_ v1_ v2_ v3_ v4_ v5_ H_) v1 v2 v3 v4 v5 (!(decide (x9 < 0))) p8.2)))
  else
    (r121_j4 app (fun v1_ v2_ v3_ v4_ v5_ H_ => r121_l1 app k_ v1_ v2_ v3_ v4_ v5_ H_) v1 v2 v3 v4 v5 false H)
noncomputable def r121_j2 (app : App) (kt0 : Sl → Int → AV → Int → Int → Hp → Option ((Int × Bool) × Hp)) (v1 : Sl) (v2 : Int) (v3 : AV) (v4 : Int) (v5 : Int) (v6 : Bool) (H : Hp) : Option ((Int × Bool) × Hp) :=
  if v6 = true then
    (kt0 v1 v2 v3 (w64 (v4 + 1)) v5 H)
  else
    (r121_l1 app FUEL v1 v2 v3 v4 v5 H)
noncomputable def r121_l0 (app : App) : Nat → Sl → Int → AV → Int → Int → Hp → Option ((Int × Bool) × Hp)
  | 0, _, _, _, _, _, _ => none
  | k_ + 1, v1, v2, v3, v4, v5, H => if v4 ≤ v5 then
    (ck ((0 : Int) ≤ v4 ∧ v4 < (v1.len : Int)) (
    (H.ldI .i64 v1.b (v1.o + (v4 : Int).toNat * 2)).bind fun x3 =>
    (H.ldI .i64 v1.b ((v1.o + (v4 : Int).toNat * 2) + 1)).bind fun x4 =>
    ck ((0 : Int) ≤ v2 ∧ v2 < (v1.len : Int)) (
    (H.ldI .i64 v1.b (v1.o + (v2 : Int).toNat * 2)).bind fun x6 =>
    (H.ldI .i64 v1.b ((v1.o + (v2 : Int).toNat * 2) + 1)).bind fun x7 =>
    (callv app v3 [.agg [.int .i64 x3, .int .i64 x4], .agg [.int .i64 x6, .int .i64 x7]] H).bind fun p8 =>
    (p8.1.asI .i64).bind fun x9 =>
    r121_j2 app (fun v1_ v2_ v3_ v4_ v5_ H_ => r121_l0 app k_ v1_ v2_ v3_ v4_ v5_ H_) v1 v2 v3 v4 v5 (decide (x9 < 0)) p8.2)))
  else
    (r121_j2 app (fun v1_ v2_ v3_ v4_ v5_ H_ => r121_l0 app k_ v1_ v2_ v3_ v4_ v5_ H_) v1 v2 v3 v4 v5 false H)
noncomputable def r121 (app : App) (a0 : Sl) (a1 : Int) (a2 : Int) (a3 : Int) (a4 : AV) (H : Hp) : Option ((Int × Bool) × Hp) :=
  ck ((0 : Int) ≤ a3 ∧ a3 < (a0.len : Int)) (
  (H.ldI .i64 a0.b (a0.o + (a3 : Int).toNat * 2)).bind fun x2 =>
  (H.ldI .i64 a0.b ((a0.o + (a3 : Int).toNat * 2) + 1)).bind fun x3 =>
  ck ((0 : Int) ≤ a1 ∧ a1 < (a0.len : Int)) (
  (H.ldI .i64 a0.b (a0.o + (a1 : Int).toNat * 2)).bind fun x5 =>
  (H.ldI .i64 a0.b ((a0.o + (a1 : Int).toNat * 2) + 1)).bind fun x6 =>
  ck ((0 : Int) ≤ a1 ∧ a1 < (a0.len : Int)) (
  (H.sts a0.b (a0.o + (a1 : Int).toNat * 2) [.int .i64 x2, .int .i64 x3]).bind fun H8 =>
  ck ((0 : Int) ≤ a3 ∧ a3 < (a0.len : Int)) (
  (H8.sts a0.b (a0.o + (a3 : Int).toNat * 2) [.int .i64 x5, .int .i64 x6]).bind fun H10 =>
  r121_l0 app FUEL a0 a1 a4 (w64 (a1 + 1)) (w64 (a2 - 1)) H10))))
/- 104 slices.pdqsortCmpFunc[[2]int] -/
def ret104 : Unit → AV := fun _ => .tup []
noncomputable def r104_j1 (app : App) (kt0 : Sl → Int → Int → Int → AV → Bool → Bool → Hp → Option (Unit × Hp)) (v1 : Sl) (v2 : Int) (v3 : Int) (v4 : Int) (v5 : AV) (v6 : Bool) (v7 : Bool) (v8 : Int) (v9 : Int) (v10 : Bool) (H : Hp) : Option (Unit × Hp) :=
  if v10 = true then
    ((r120 app v1 v2 v3 v9 v5 H).bind fun p2 =>
    kt0 v1 p2.1 v3 v4 v5 v6 v7 p2.2)
  else
    ((r121 app v1 v2 v3 v9 v5 H).bind fun p3 =>
    if (w64 (p3.1.1 - v2)) < (w64 (v3 - p3.1.1)) then
      ((app 104 [.sl v1, .int .i64 v2, .int .i64 p3.1.1, .int .i64 v4, v5] p3.2).bind fun p5 =>
      kt0 v1 (w64 (p3.1.1 + 1)) v3 v4 v5 (decide ((w64 (Int.tdiv v8 8)) ≤ (w64 (p3.1.1 - v2)))) p3.1.2 p5.2)
    else
      ((app 104 [.sl v1, .int .i64 (w64 (p3.1.1 + 1)), .int .i64 v3, .int .i64 v4, v5] p3.2).bind fun p6 =>
      kt0 v1 v2 p3.1.1 v4 v5 (decide ((w64 (Int.tdiv v8 8)) ≤ (w64 (v3 - p3.1.1)))) p3.1.2 p6.2))
noncomputable def r104_j2 (app : App) (kt0 : Sl → Int → Int → Int → AV → Bool → Bool → Hp → Option (Unit × Hp)) (v1 : Sl) (v2 : Int) (v3 : Int) (v4 : Int) (v5 : AV) (v6 : Bool) (v7 : Bool) (v8 : Int) (v9 : Int) (H : Hp) : Option (Unit × Hp) :=
  if 0 < v2 then
    (ck ((0 : Int) ≤ (w64 (v2 - 1)) ∧ (w64 (v2 - 1)) < (v1.len : Int)) (
    (H.ldI .i64 v1.b (v1.o + (w64 (v2 - 1) : Int).toNat * 2)).bind fun x3 =>
    (H.ldI .i64 v1.b ((v1.o + (w64 (v2 - 1) : Int).toNat * 2) + 1)).bind fun x4 =>
    ck ((0 : Int) ≤ v9 ∧ v9 < (v1.len : Int)) (
    (H.ldI .i64 v1.b (v1.o + (v9 : Int).toNat * 2)).bind fun x6 =>
    (H.ldI .i64 v1.b ((v1.o + (v9 : Int).toNat * 2) + 1)).bind fun x7 =>
    (callv app v5 [.agg [.int .i64 x3, .int .i64 x4], .agg [.int .i64 x6, .int .i64 x7]] H).bind fun p8 =>
    (p8.1.asI .i64).bind fun x9 =>
    r104_j1 app kt0 v1 v2 v3 v4 v5 v6 v7 v8 v9 (!(decide (x9 < 0))) p8.2)))
  else
    (r104_j1 app kt0 v1 v2 v3 v4 v5 v6 v7 v8 v9 false H)
noncomputable def r104_j3 (app : App) (kt0 : Sl → Int → Int → Int → AV → Bool → Bool → Hp → Option (Unit × Hp)) (v1 : Sl) (v2 : Int) (v3 : Int) (v4 : Int) (v5 : AV) (v6 : Bool) (v7 : Bool) (v8 : Int) (v9 : Int) (v10 : Bool) (H : Hp) : Option (Unit × Hp) :=
  if v10 = true then
    ((r119 app v1 v2 v3 v5 H).bind fun p2 =>
    if p2.1 = true then
      (some ((), p2.2))
    else
      (r104_j2 app kt0 v1 v2 v3 v4 v5 v6 v7 v8 v9 p2.2))
  else
    (r104_j2 app kt0 v1 v2 v3 v4 v5 v6 v7 v8 v9 H)
noncomputable def r104_j4 (app : App) (kt0 : Sl → Int → Int → Int → AV → Bool → Bool → Hp → Option (Unit × Hp)) (v1 : Sl) (v2 : Int) (v3 : Int) (v4 : Int) (v5 : AV) (v6 : Bool) (v7 : Bool) (v8 : Int) (v9 : Int) (v10 : Int) (H : Hp) : Option (Unit × Hp) :=
  if v6 = true then
    (if v7 = true then
      (r104_j3 app kt0 v1 v2 v3 v4 v5 true true v8 v9 (decide (v10 = 1)) H)
    else
      (r104_j3 app kt0 v1 v2 v3 v4 v5 true false v8 v9 false H))
  else
    (r104_j3 app kt0 v1 v2 v3 v4 v5 false v7 v8 v9 false H)
noncomputable def r104_j5 (app : App) (kt0 : Sl → Int → Int → Int → AV → Bool → Bool → Hp → Option (Unit × Hp)) (v1 : Sl) (v2 : Int) (v3 : Int) (v4 : Int) (v5 : AV) (v6 : Bool) (v7 : Bool) (v8 : Int) (H : Hp) : Option (Unit × Hp) :=
  (r117 app v1 v2 v3 v5 H).bind fun p1 =>
  if p1.1.2 = 2 then
    ((r118 v1 v2 v3 v5 p1.2).bind fun p3 =>
    r104_j4 app kt0 v1 v2 v3 v4 v5 v6 v7 v8 (w64 ((w64 (v3 - 1)) - (w64 (p1.1.1 - v2)))) 1 p3.2)
  else
    (r104_j4 app kt0 v1 v2 v3 v4 v5 v6 v7 v8 p1.1.1 p1.1.2 p1.2)
noncomputable def r104_l0 (app : App) : Nat → Sl → Int → Int → Int → AV → Bool → Bool → Hp → Option (Unit × Hp)
  | 0, _, _, _, _, _, _, _, _ => none
  | k_ + 1, v1, v2, v3, v4, v5, v6, v7, H => if (w64 (v3 - v2)) ≤ 12 then
    ((r114 app v1 v2 v3 v5 H).bind fun p2 =>
    some ((), p2.2))
  else
    (if v4 = 0 then
      ((r115 app v1 v2 v3 v5 H).bind fun p4 =>
      some ((), p4.2))
    else
      (if v6 = true then
        (r104_j5 app (fun v1_ v2_ v3_ v4_ v5_ v6_ v7_ H_ => r104_l0 app k_ v1_ v2_ v3_ v4_ v5_ v6_ v7_ H_) v1 v2 v3 v4 v5 true v7 (w64 (v3 - v2)) H)
      else
        ((r116 v1 v2 v3 v5 H).bind fun p6 =>
        r104_j5 app (fun v1_ v2_ v3_ v4_ v5_ v6_ v7_ H_ => r104_l0 app k_ v1_ v2_ v3_ v4_ v5_ v6_ v7_ H_) v1 v2 v3 (w64 (v4 - 1)) v5 false v7 (w64 (v3 - v2)) p6.2)))
noncomputable def r104 (app : App) (a0 : Sl) (a1 : Int) (a2 : Int) (a3 : Int) (a4 : AV) (H : Hp) : Option (Unit × Hp) :=
  r104_l0 app FUEL a0 a1 a2 a3 a4 true true H
/- 66 slices.SortFunc[[][2]int,[2]int] -/
def ret66 : Unit → AV := fun _ => .tup []
noncomputable def r66 (app : App) (a0 : Sl) (a1 : AV) (H : Hp) : Option (Unit × Hp) :=
  (r105 (IntKind.wrap .u64 ((a0.len : Int))) H).bind fun p1 =>
  (r104 app a0 0 (a0.len : Int) p1.1 a1 p1.2).bind fun p2 =>
  some ((), p2.2)
/- 106 congou/pairs.ordered[[2]int] -/
def ret106 : Sl → AV := fun r => .sl r
noncomputable def r106 (app : App) (a0 : Sl) (a1 : AV) (H : Hp) : Option (Sl × Hp) :=
  (r66 app a0 a1 H).bind fun p1 =>
  some (a0, p1.2)
end Go.Lt.P8
