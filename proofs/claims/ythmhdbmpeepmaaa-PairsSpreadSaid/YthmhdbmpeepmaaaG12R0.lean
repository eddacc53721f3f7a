/- PRINTED BY A PROGRAM OF OURS: what each function that 'PairsSpread' reaches computes on the abstract heap, and that the translated code does just that. Nothing is asked of the input. -/
import Derived.Test.YthmhdbmpeepmaaaG12T
set_option linter.unusedVariables false
set_option linter.unusedSimpArgs false
set_option maxRecDepth 100000
set_option maxHeartbeats 4000000
namespace Go.Lt.P8
open Go Go.Lt Go.Proofs
/- 80 congou/pairs.isShift -/
def ret80 : Bool → AV := fun r => .bool r
noncomputable def r80 (a0 : Int) (H : Hp) : Option (Bool × Hp) :=
  if a0 = 1 then
    (some (true, H))
  else
    (some ((decide (a0 = 2)), H))
/- 72 congou/pairs.isRows -/
def ret72 : Bool → AV := fun r => .bool r
noncomputable def r72 (a0 : Int) (a1 : Int) (H : Hp) : Option (Bool × Hp) :=
  if 1 ≤ a0 then
    (if a0 ≤ 8 then
      ((r80 a1 H).bind fun p3 =>
      some (p3.1, p3.2))
    else
      (some (false, H)))
  else
    (some (false, H))
/- 73 congou/pairs.rows -/
def ret73 : Unit → AV := fun _ => .tup []
noncomputable def r73 (app : App) (a0 : Int) (a1 : Int) (a2 : AV) (H : Hp) : Option (Unit × Hp) :=
  ck (AV.one a2 = true) (
  lt (((H.push (.cells [.int .i64 a0] false)).push (.cells [.int .i64 a1] false)).push (.cells [a2] false)) fun H2 =>
  (H2.ldI .i64 H.n 0).bind fun x3 =>
  ck ((0 : Int) ≤ (w64 (2 * x3)) ∧ (w64 (2 * x3)) ≤ (w64 (2 * x3)) ∧ (w64 (2 * x3)) ≤ 4294967296) (
  (((H2.push (.cells (zerosA [.int .i64 0] ((w64 (2 * x3) : Int).toNat * 1)) false)).push (.cells [.sl ⟨true, 0, 0, 0, 0, 0⟩] false)).st ((H2.push (.cells (zerosA [.int .i64 0] ((w64 (2 * x3) : Int).toNat * 1)) false)).n) 0 (.sl ⟨false, H2.n, 0, (w64 (2 * x3) : Int).toNat, (w64 (2 * x3) : Int).toNat, 0⟩)).bind fun H5 =>
  lt (H5.push (.cells [.nilfn] false)) fun H6 =>
  (H6.st H5.n 0 (.fn 107 [] [.ptr ((H2.push (.cells (zerosA [.int .i64 0] ((w64 (2 * x3) : Int).toNat * 1)) false)).n) 0, .ptr (((H.push (.cells [.int .i64 a0] false)).push (.cells [.int .i64 a1] false)).n) 0, .ptr H.n 0, .ptr ((H.push (.cells [.int .i64 a0] false)).n) 0, .ptr H5.n 0])).bind fun H7 =>
  (H7.ldV H5.n 0).bind fun x8 =>
  (callv app x8 [.int .i64 0] H7).bind fun p9 =>
  (p9.1.asB).bind fun x10 =>
  some ((), p9.2)))
/- 20 congou/pairs.First -/
def ret20 : Sl × Int → AV := fun r => .tup [.sl r.1, .int .i64 r.2]
noncomputable def r20 (app : App) (a0 : Int) (a1 : Int) (H : Hp) : Option ((Sl × Int) × Hp) :=
  (r72 a0 a1 H).bind fun p1 =>
  if p1.1 = true then
    (lt (p1.2.push (.cells [.sl ⟨true, 0, 0, 0, 0, 0⟩] false)) fun H3 =>
    (r73 app a0 a1 (.fn 74 [] [.ptr p1.2.n 0]) H3).bind fun p4 =>
    (p4.2.ldSl p1.2.n 0).bind fun x5 =>
    if x5.nil = true then
      (some ((⟨true, 0, 0, 0, 0, 0⟩, 4), p4.2))
    else
      ((p4.2.ldSl p1.2.n 0).bind fun x7 =>
      some ((x7, 0), p4.2)))
  else
    (some ((⟨true, 0, 0, 0, 0, 0⟩, 2), p1.2))
/- 25 slices.Equal[[]int,int] -/
def ret25 : Bool → AV := fun r => .bool r
noncomputable def r25_l0 : Nat → Sl → Sl → Int → Int → Hp → Option (Bool × Hp)
  | 0, _, _, _, _, _ => none
  | k_ + 1, v1, v2, v3, v4, H => if v4 < v3 then
    (ck ((0 : Int) ≤ v4 ∧ v4 < (v1.len : Int)) (
    (H.ldI .i64 v1.b (v1.o + (v4 : Int).toNat * 1)).bind fun x3 =>
    ck ((0 : Int) ≤ v4 ∧ v4 < (v2.len : Int)) (
    (H.ldI .i64 v2.b (v2.o + (v4 : Int).toNat * 1)).bind fun x5 =>
    if x3 ≠ x5 then
      (some (false, H))
    else
      (r25_l0 k_ v1 v2 v3 (w64 (v4 + 1)) H))))
  else
    (some (true, H))
noncomputable def r25 (a0 : Sl) (a1 : Sl) (H : Hp) : Option (Bool × Hp) :=
  if (a0.len : Int) ≠ (a1.len : Int) then
    (some (false, H))
  else
    (r25_l0 FUEL a0 a1 (a0.len : Int) 0 H)
/- 23 congou/congoulaw08.awake -/
def ret23 : Bool → AV := fun r => .bool r
noncomputable def r23 (app : App) (H : Hp) : Option (Bool × Hp) :=
  (r20 app 1 1 H).bind fun p1 =>
  if p1.1.2 = 0 then
    ((r25 p1.1.1 ⟨false, p1.2.n, 0, 2, 2, 0⟩ (p1.2.push (.cells [.int .i64 1, .int .i64 1] false))).bind fun p3 =>
    some (p3.1, p3.2))
  else
    (some (false, p1.2))
/- 109 cmp.isNaN[int] -/
def ret109 : Bool → AV := fun r => .bool r
noncomputable def r109 (a0 : Int) (H : Hp) : Option (Bool × Hp) :=
  some ((decide (a0 ≠ a0)), H)
/- 87 cmp.Compare[int] -/
def ret87 : Int → AV := fun r => .int .i64 r
noncomputable def r87 (a0 : Int) (a1 : Int) (H : Hp) : Option (Int × Hp) :=
  (r109 a0 H).bind fun p1 =>
  (r109 a1 p1.2).bind fun p2 =>
  if p1.1 = true then
    (if p2.1 = true then
      (some (0, p2.2))
    else
      (some ((-1), p2.2)))
  else
    (if p2.1 = true then
      (some (1, p2.2))
    else
      (if a0 < a1 then
        (some ((-1), p2.2))
      else
        (if a1 < a0 then
          (some (1, p2.2))
        else
          (some (0, p2.2)))))
/- 50 slices.Compare[[]int,int] -/
def ret50 : Int → AV := fun r => .int .i64 r
noncomputable def r50_l0 : Nat → Sl → Sl → Sl → Int → Int → Hp → Option (Int × Hp)
  | 0, _, _, _, _, _, _ => none
  | k_ + 1, v1, v2, v3, v4, v5, H => if v5 < v4 then
    (ck ((0 : Int) ≤ v5 ∧ v5 < (v3.len : Int)) (
    (H.ldI .i64 v3.b (v3.o + (v5 : Int).toNat * 1)).bind fun x3 =>
    if (v2.len : Int) ≤ v5 then
      (some (1, H))
    else
      (ck ((0 : Int) ≤ v5 ∧ v5 < (v2.len : Int)) (
      (H.ldI .i64 v2.b (v2.o + (v5 : Int).toNat * 1)).bind fun x6 =>
      (r87 x3 x6 H).bind fun p7 =>
      if p7.1 ≠ 0 then
        (some (p7.1, p7.2))
      else
        (r50_l0 k_ v1 v2 v3 v4 (w64 (v5 + 1)) p7.2)))))
  else
    (if (v1.len : Int) < (v2.len : Int) then
      (some ((-1), H))
    else
      (some (0, H)))
noncomputable def r50 (a0 : Sl) (a1 : Sl) (H : Hp) : Option (Int × Hp) :=
  r50_l0 FUEL a0 a1 a0 (a0.len : Int) 0 H
/- 88 congou/pairs.isThreePlayers -/
def ret88 : Bool → AV := fun r => .bool r
noncomputable def r88 (a0 : Int) (H : Hp) : Option (Bool × Hp) :=
  if 3 ≤ a0 then
    (some ((decide (a0 ≤ 9)), H))
  else
    (some (false, H))
/- 95 (congou/pairs.together).first -/
def ret95 : Int × Int × Bool → AV := fun r => .tup [.agg [.int .i64 r.1, .int .i64 r.2.1], .bool r.2.2]
noncomputable def r95_l1 (kt0 : Nat → Int → Nat → Int → Int → Hp → Option ((Int × Int × Bool) × Hp)) : Nat → Nat → Int → Nat → Int → Int → Int → Int → Hp → Option ((Int × Int × Bool) × Hp)
  | 0, _, _, _, _, _, _, _, _ => none
  | k_ + 1, v1, v2, v3, v4, v5, v6, v7, H => if v5 < v2 then
    (((H.push (.cells [.int .i64 0, .int .i64 0] false)).sts H.n 0 [.int .i64 v4, .int .i64 v5]).bind fun H2 =>
    (H2.ldI .i64 H.n 0).bind fun x3 =>
    (H2.ldI .i64 H.n (0 + 1)).bind fun x4 =>
    (H2.mgetT (.arr 2 .i64) v1 (.agg [.int .i64 x3, .int .i64 x4])).bind fun x5 =>
    ((x5.getD (.bool false)).asB).bind fun x6 =>
    if x6 = true then
      (r95_l1 kt0 k_ v1 v2 v3 v4 (w64 (v5 + 1)) v6 v7 H2)
    else
      ((H2.ldI .i64 H.n 0).bind fun x8 =>
      (H2.ldI .i64 H.n (0 + 1)).bind fun x9 =>
      (H2.sts v3 0 [.int .i64 x8, .int .i64 x9]).bind fun H10 =>
      (H10.ldI .i64 v3 0).bind fun x11 =>
      (H10.ldI .i64 v3 (0 + 1)).bind fun x12 =>
      some ((x11, x12, true), H10)))
  else
    (kt0 v1 v2 v3 v6 (w64 (v7 + 1)) H)
noncomputable def r95_l0 : Nat → Nat → Int → Nat → Int → Int → Hp → Option ((Int × Int × Bool) × Hp)
  | 0, _, _, _, _, _, _ => none
  | k_ + 1, v1, v2, v3, v4, v5, H => if v5 < v4 then
    (r95_l1 (fun v1_ v2_ v3_ v4_ v5_ H_ => r95_l0 k_ v1_ v2_ v3_ v4_ v5_ H_) FUEL v1 v2 v3 v5 (w64 (v5 + 1)) v4 v5 H)
  else
    ((H.sts v3 0 [.int .i64 0, .int .i64 0]).bind fun H2 =>
    (H2.ldI .i64 v3 0).bind fun x3 =>
    (H2.ldI .i64 v3 (0 + 1)).bind fun x4 =>
    some ((x3, x4, false), H2))
noncomputable def r95 (a0 : Nat) (a1 : Int) (H : Hp) : Option ((Int × Int × Bool) × Hp) :=
  lt (H.push (.cells [.int .i64 0, .int .i64 0] false)) fun H1 =>
  r95_l0 FUEL a0 a1 H.n a1 0 H1
/- 124 slices.IndexFunc[[][2]int,[2]int] -/
def ret124 : Int → AV := fun r => .int .i64 r
noncomputable def r124_l0 (app : App) : Nat → Sl → AV → Int → Int → Hp → Option (Int × Hp)
  | 0, _, _, _, _, _ => none
  | k_ + 1, v1, v2, v3, v4, H => if v4 < v3 then
    (ck ((0 : Int) ≤ v4 ∧ v4 < (v1.len : Int)) (
    (H.ldI .i64 v1.b (v1.o + (v4 : Int).toNat * 2)).bind fun x3 =>
    (H.ldI .i64 v1.b ((v1.o + (v4 : Int).toNat * 2) + 1)).bind fun x4 =>
    (callv app v2 [.agg [.int .i64 x3, .int .i64 x4]] H).bind fun p5 =>
    (p5.1.asB).bind fun x6 =>
    if x6 = true then
      (some (v4, p5.2))
    else
      (r124_l0 app k_ v1 v2 v3 (w64 (v4 + 1)) p5.2)))
  else
    (some ((-1), H))
noncomputable def r124 (app : App) (a0 : Sl) (a1 : AV) (H : Hp) : Option (Int × Hp) :=
  r124_l0 app FUEL a0 a1 (a0.len : Int) 0 H
/- 110 slices.ContainsFunc[[][2]int,[2]int] -/
def ret110 : Bool → AV := fun r => .bool r
noncomputable def r110 (app : App) (a0 : Sl) (a1 : AV) (H : Hp) : Option (Bool × Hp) :=
  (r124 app a0 a1 H).bind fun p1 =>
  some ((decide (0 ≤ p1.1)), p1.2)
/- 111 congou/pairs.pairs -/
def ret111 : Sl → AV := fun r => .sl r
noncomputable def r111 (a0_0 : Int) (a0_1 : Int) (a0_2 : Int) (H : Hp) : Option (Sl × Hp) :=
  lt (H.push (.cells [.int .i64 a0_0, .int .i64 a0_1, .int .i64 a0_2] false)) fun H1 =>
  (H1.ldI .i64 H.n (0 + (0 : Int).toNat * 1)).bind fun x2 =>
  (H1.ldI .i64 H.n (0 + (1 : Int).toNat * 1)).bind fun x3 =>
  (H1.ldI .i64 H.n (0 + (0 : Int).toNat * 1)).bind fun x4 =>
  (H1.ldI .i64 H.n (0 + (2 : Int).toNat * 1)).bind fun x5 =>
  (H1.ldI .i64 H.n (0 + (1 : Int).toNat * 1)).bind fun x6 =>
  (H1.ldI .i64 H.n (0 + (2 : Int).toNat * 1)).bind fun x7 =>
  lt (H1.push (.cells [.int .i64 x2, .int .i64 x3, .int .i64 x4, .int .i64 x5, .int .i64 x6, .int .i64 x7] false)) fun H8 =>
  some (⟨false, H1.n, 0, 3, 3, 0⟩, H8)
/- 96 (congou/pairs.together).fits -/
def ret96 : Bool → AV := fun r => .bool r
noncomputable def r96 (app : App) (a0 : Nat) (a1_0 : Int) (a1_1 : Int) (a1_2 : Int) (H : Hp) : Option (Bool × Hp) :=
  lt ((H.push (.cells [.map a0] false)).push (.cells [.int .i64 a1_0, .int .i64 a1_1, .int .i64 a1_2] false)) fun H1 =>
  (H1.ldI .i64 ((H.push (.cells [.map a0] false)).n) 0).bind fun x2 =>
  (H1.ldI .i64 ((H.push (.cells [.map a0] false)).n) (0 + 1)).bind fun x3 =>
  (H1.ldI .i64 ((H.push (.cells [.map a0] false)).n) (0 + 2)).bind fun x4 =>
  (r111 x2 x3 x4 H1).bind fun p5 =>
  (r110 app p5.1 (.fn 112 [] [.ptr H.n 0]) p5.2).bind fun p6 =>
  some ((!p6.1), p6.2)
/- 97 (congou/pairs.together).put -/
def ret97 : Unit → AV := fun _ => .tup []
noncomputable def r97_l0 : Nat → Nat → Bool → Sl → Int → Int → Hp → Option (Unit × Hp)
  | 0, _, _, _, _, _, _ => none
  | k_ + 1, v1, v2, v3, v4, v5, H => if v5 < v4 then
    (ck ((0 : Int) ≤ v5 ∧ v5 < (v3.len : Int)) (
    (H.ldI .i64 v3.b (v3.o + (v5 : Int).toNat * 2)).bind fun x3 =>
    (H.ldI .i64 v3.b ((v3.o + (v5 : Int).toNat * 2) + 1)).bind fun x4 =>
    ((H.push (.cells [.int .i64 0, .int .i64 0] false)).sts H.n 0 [.int .i64 x3, .int .i64 x4]).bind fun H5 =>
    if v2 = true then
      ((H5.ldI .i64 H.n 0).bind fun x7 =>
      (H5.ldI .i64 H.n (0 + 1)).bind fun x8 =>
      (H5.msetT (.arr 2 .i64) v1 (.agg [.int .i64 x7, .int .i64 x8]) (.bool true)).bind fun H9 =>
      r97_l0 k_ v1 true v3 v4 (w64 (v5 + 1)) H9)
    else
      ((H5.ldI .i64 H.n 0).bind fun x10 =>
      (H5.ldI .i64 H.n (0 + 1)).bind fun x11 =>
      (H5.mdelT (.arr 2 .i64) v1 (.agg [.int .i64 x10, .int .i64 x11])).bind fun H12 =>
      r97_l0 k_ v1 false v3 v4 (w64 (v5 + 1)) H12)))
  else
    (some ((), H))
noncomputable def r97 (a0 : Nat) (a1_0 : Int) (a1_1 : Int) (a1_2 : Int) (a2 : Bool) (H : Hp) : Option (Unit × Hp) :=
  lt (H.push (.cells [.int .i64 a1_0, .int .i64 a1_1, .int .i64 a1_2] false)) fun H1 =>
  (H1.ldI .i64 H.n 0).bind fun x2 =>
  (H1.ldI .i64 H.n (0 + 1)).bind fun x3 =>
  (H1.ldI .i64 H.n (0 + 2)).bind fun x4 =>
  (r111 x2 x3 x4 H1).bind fun p5 =>
  r97_l0 FUEL a0 a2 p5.1 (p5.1.len : Int) 0 p5.2
/- 89 congou/pairs.areThrees -/
def ret89 : Bool → AV := fun r => .bool r
noncomputable def r89_j1 (app : App) (kt0 : Int → Sl → Nat → Sl → Int → Int → Hp → Option (Bool × Hp)) (v1 : Int) (v2 : Sl) (v3 : Nat) (v4 : Nat) (v5 : Sl) (v6 : Int) (v7 : Int) (v8 : Bool) (H : Hp) : Option (Bool × Hp) :=
  if v8 = true then
    (some (false, H))
  else
    ((H.ldI .i64 v4 0).bind fun x2 =>
    (H.ldI .i64 v4 (0 + 1)).bind fun x3 =>
    (H.ldI .i64 v4 (0 + 2)).bind fun x4 =>
    (r97 v3 x2 x3 x4 true H).bind fun p5 =>
    kt0 v1 v2 v3 v5 v6 (w64 (v7 + 1)) p5.2)
noncomputable def r89_l0 (app : App) : Nat → Int → Sl → Nat → Sl → Int → Int → Hp → Option (Bool × Hp)
  | 0, _, _, _, _, _, _, _ => none
  | k_ + 1, v1, v2, v3, v4, v5, v6, H => if v6 < v5 then
    (ck ((0 : Int) ≤ v6 ∧ v6 < (v4.len : Int)) (
    (H.ldI .i64 v4.b (v4.o + (v6 : Int).toNat * 3)).bind fun x3 =>
    (H.ldI .i64 v4.b ((v4.o + (v6 : Int).toNat * 3) + 1)).bind fun x4 =>
    (H.ldI .i64 v4.b ((v4.o + (v6 : Int).toNat * 3) + 2)).bind fun x5 =>
    ((H.push (.cells [.int .i64 0, .int .i64 0, .int .i64 0] false)).sts H.n 0 [.int .i64 x3, .int .i64 x4, .int .i64 x5]).bind fun H6 =>
    (H6.ldI .i64 H.n (0 + (0 : Int).toNat * 1)).bind fun x7 =>
    if x7 < 0 then
      (r89_j1 app (fun v1_ v2_ v3_ v4_ v5_ v6_ H_ => r89_l0 app k_ v1_ v2_ v3_ v4_ v5_ v6_ H_) v1 v2 v3 H.n v4 v5 v6 true H6)
    else
      ((H6.ldI .i64 H.n (0 + (0 : Int).toNat * 1)).bind fun x9 =>
      (H6.ldI .i64 H.n (0 + (1 : Int).toNat * 1)).bind fun x10 =>
      if x10 ≤ x9 then
        (r89_j1 app (fun v1_ v2_ v3_ v4_ v5_ v6_ H_ => r89_l0 app k_ v1_ v2_ v3_ v4_ v5_ v6_ H_) v1 v2 v3 H.n v4 v5 v6 true H6)
      else
        ((H6.ldI .i64 H.n (0 + (1 : Int).toNat * 1)).bind fun x12 =>
        (H6.ldI .i64 H.n (0 + (2 : Int).toNat * 1)).bind fun x13 =>
        if x13 ≤ x12 then
          (r89_j1 app (fun v1_ v2_ v3_ v4_ v5_ v6_ H_ => r89_l0 app k_ v1_ v2_ v3_ v4_ v5_ v6_ H_) v1 v2 v3 H.n v4 v5 v6 true H6)
        else
          ((H6.ldI .i64 H.n (0 + (2 : Int).toNat * 1)).bind fun x15 =>
          if v1 ≤ x15 then
            (r89_j1 app (fun v1_ v2_ v3_ v4_ v5_ v6_ H_ => r89_l0 app k_ v1_ v2_ v3_ v4_ v5_ v6_ H_) v1 v2 v3 H.n v4 v5 v6 true H6)
          else
            ((H6.ldI .i64 H.n 0).bind fun x17 =>
            (H6.ldI .i64 H.n (0 + 1)).bind fun x18 =>
            (H6.ldI .i64 H.n (0 + 2)).bind fun x19 =>
            (r96 app v3 x17 x18 x19 H6).bind fun p20 =>
            if p20.1 = true then
              (if 0 < v6 then
                (ck ((0 : Int) ≤ (w64 (v6 - 1)) ∧ (w64 (v6 - 1)) < (v2.len : Int)) (
                (r50 ⟨false, v2.b, (v2.o + (w64 (v6 - 1) : Int).toNat * 3) + (0 : Int).toNat * 1, (((3 : Nat) : Int) : Int).toNat - (0 : Int).toNat, 3 - (0 : Int).toNat, 0⟩ ⟨false, H.n, 0 + (0 : Int).toNat * 1, (((3 : Nat) : Int) : Int).toNat - (0 : Int).toNat, 3 - (0 : Int).toNat, 0⟩ p20.2).bind fun p24 =>
                r89_j1 app (fun v1_ v2_ v3_ v4_ v5_ v6_ H_ => r89_l0 app k_ v1_ v2_ v3_ v4_ v5_ v6_ H_) v1 v2 v3 H.n v4 v5 v6 (decide (0 ≤ p24.1)) p24.2))
              else
                (r89_j1 app (fun v1_ v2_ v3_ v4_ v5_ v6_ H_ => r89_l0 app k_ v1_ v2_ v3_ v4_ v5_ v6_ H_) v1 v2 v3 H.n v4 v5 v6 false p20.2))
            else
              (r89_j1 app (fun v1_ v2_ v3_ v4_ v5_ v6_ H_ => r89_l0 app k_ v1_ v2_ v3_ v4_ v5_ v6_ H_) v1 v2 v3 H.n v4 v5 v6 true p20.2)))))))
  else
    ((r95 v3 v1 H).bind fun p25 =>
    ((p25.2.push (.cells [.int .i64 0, .int .i64 0] false)).sts p25.2.n 0 [.int .i64 p25.1.1, .int .i64 p25.1.2.1]).bind fun H26 =>
    some ((!p25.1.2.2), H26))
noncomputable def r89 (app : App) (a0 : Int) (a1 : Sl) (H : Hp) : Option (Bool × Hp) :=
  lt (H.push (.map (.arr 2 .i64) [])) fun H1 =>
  r89_l0 app FUEL a0 a1 H.n a1 (a1.len : Int) 0 H1
/- 51 congou/pairs.Spreads -/
def ret51 : Sl × Int → AV := fun r => .tup [.sl r.1, .int .i64 r.2]
noncomputable def r51_j0 (app : App) (v1 : Nat) (v2 : Nat) (v3 : Bool) (H : Hp) : Option ((Sl × Int) × Hp) :=
  if v3 = true then
    (some ((⟨true, 0, 0, 0, 0, 0⟩, 2), H))
  else
    (lt (H.push (.cells [.sl ⟨true, 0, 0, 0, 0, 0⟩] false)) fun H2 =>
    lt (H2.push (.cells [.nilfn] false)) fun H3 =>
    (H3.st H2.n 0 (.fn 90 [] [.ptr v1 0, .ptr H.n 0, .ptr v2 0, .ptr H2.n 0])).bind fun H4 =>
    (H4.ldV H2.n 0).bind fun x5 =>
    (callv app x5 [.int .i64 0, .int .i64 0, .sl ⟨true, 0, 0, 0, 0, 0⟩] H4).bind fun p6 =>
    (p6.2.ldSl H.n 0).bind fun x7 =>
    some ((x7, 0), p6.2))
noncomputable def r51 (app : App) (a0 : Int) (a1 : Sl) (H : Hp) : Option ((Sl × Int) × Hp) :=
  lt ((H.push (.cells [.int .i64 a0] false)).push (.cells [.sl a1] false)) fun H1 =>
  (H1.ldI .i64 H.n 0).bind fun x2 =>
  (r88 x2 H1).bind fun p3 =>
  if p3.1 = true then
    ((p3.2.ldI .i64 H.n 0).bind fun x5 =>
    (p3.2.ldSl ((H.push (.cells [.int .i64 a0] false)).n) 0).bind fun x6 =>
    (r89 app x5 x6 p3.2).bind fun p7 =>
    r51_j0 app H.n ((H.push (.cells [.int .i64 a0] false)).n) (!p7.1) p7.2)
  else
    (r51_j0 app H.n ((H.push (.cells [.int .i64 a0] false)).n) true p3.2)
/- 91 slices.Clone[[][3]int,[3]int] -/
def ret91 : Sl → AV := fun r => .sl r
noncomputable def r91 (a0 : Sl) (H : Hp) : Option (Sl × Hp) :=
  if a0.nil = true then
    (some (⟨true, 0, 0, 0, 0, 0⟩, H))
  else
    (((H.push (.cells [] false)).lds a0.b a0.o (a0.len * 3)).bind fun x2 =>
    ck (x2.all AV.one = true) (
    ((H.push (.cells [] false)).app 3 ⟨false, H.n, 0, 0, 0, 0⟩ x2 a0.len).bind fun x4 =>
    some (x4.1, x4.2)))
/- 52 congou/congoulaw08.triples -/
def ret52 : Sl → AV := fun r => .sl r
noncomputable def r52 (a0 : Sl) (H : Hp) : Option (Sl × Hp) :=
  ck (((0 : Int) ≤ 0 ∧ 0 ≤ (if 16 < (a0.len : Int) then 16 else (a0.len : Int)) ∧ (if 16 < (a0.len : Int) then 16 else (a0.len : Int)) ≤ (a0.cap : Int)) ∧ (a0.opn = 0 ∨ a0.opn = 3)) (
  (r91 (a0.cut 3 (0 : Int).toNat ((if 16 < (a0.len : Int) then 16 else (a0.len : Int)) : Int).toNat) H).bind fun p2 =>
  some (p2.1, p2.2))
/- 53 congou/pairs.IsThrees -/
def ret53 : Bool × Int → AV := fun r => .tup [.bool r.1, .int .i64 r.2]
noncomputable def r53 (app : App) (a0 : Int) (a1 : Sl) (H : Hp) : Option ((Bool × Int) × Hp) :=
  (r88 a0 H).bind fun p1 =>
  if p1.1 = true then
    ((r89 app a0 a1 p1.2).bind fun p3 =>
    some ((p3.1, 0), p3.2))
  else
    (some ((false, 2), p1.2))
/- 92 congou/congouref08.before -/
def ret92 : Bool → AV := fun r => .bool r
noncomputable def r92_l0 : Nat → Nat → Int → Int → Int → Int → Hp → Option (Bool × Hp)
  | 0, _, _, _, _, _, _ => none
  | k_ + 1, v1, v2, v3, v4, v5, H => if v5 < 3 then
    (ck ((0 : Int) ≤ v5 ∧ v5 < ((3 : Nat) : Int)) (
    (apart false 1 [.int .i64 v2, .int .i64 v3, .int .i64 v4] ((v5 : Int).toNat * 1)).bind fun x3 =>
    (x3.asI .i64).bind fun x4 =>
    ck ((0 : Int) ≤ v5 ∧ v5 < ((3 : Nat) : Int)) (
    (H.ldI .i64 v1 (0 + (v5 : Int).toNat * 1)).bind fun x6 =>
    if x4 ≠ x6 then
      (ck ((0 : Int) ≤ v5 ∧ v5 < ((3 : Nat) : Int)) (
      (H.ldI .i64 v1 (0 + (v5 : Int).toNat * 1)).bind fun x9 =>
      some ((decide (x4 < x9)), H)))
    else
      (r92_l0 k_ v1 v2 v3 v4 (w64 (v5 + 1)) H))))
  else
    (some (false, H))
noncomputable def r92 (a0_0 : Int) (a0_1 : Int) (a0_2 : Int) (a1_0 : Int) (a1_1 : Int) (a1_2 : Int) (H : Hp) : Option (Bool × Hp) :=
  lt ((H.push (.cells [.int .i64 a0_0, .int .i64 a0_1, .int .i64 a0_2] false)).push (.cells [.int .i64 a1_0, .int .i64 a1_1, .int .i64 a1_2] false)) fun H1 =>
  (H1.ldI .i64 H.n 0).bind fun x2 =>
  (H1.ldI .i64 H.n (0 + 1)).bind fun x3 =>
  (H1.ldI .i64 H.n (0 + 2)).bind fun x4 =>
  r92_l0 FUEL ((H.push (.cells [.int .i64 a0_0, .int .i64 a0_1, .int .i64 a0_2] false)).n) x2 x3 x4 0 H1
/- 54 congou/congouref08.IsThrees -/
def ret54 : Bool → AV := fun r => .bool r
noncomputable def r54_j1 (kt0 : Int → Sl → Nat → Sl → Int → Int → Hp → Option (Bool × Hp)) (v1 : Int) (v2 : Sl) (v3 : Nat) (v4 : Nat) (v5 : Sl) (v6 : Int) (v7 : Int) (v8 : Bool) (H : Hp) : Option (Bool × Hp) :=
  if v8 = true then
    (some (false, H))
  else
    ((H.ldI .i64 v4 (0 + (0 : Int).toNat * 1)).bind fun x2 =>
    (H.ldI .i64 v4 (0 + (1 : Int).toNat * 1)).bind fun x3 =>
    ck ((0 : Int) ≤ x2 ∧ x2 < ((9 : Nat) : Int)) (
    ck ((0 : Int) ≤ x3 ∧ x3 < ((9 : Nat) : Int)) (
    (H.ldI .i64 v3 ((0 + (x2 : Int).toNat * 9) + (x3 : Int).toNat * 1)).bind fun x6 =>
    ck ((0 : Int) ≤ x2 ∧ x2 < ((9 : Nat) : Int)) (
    ck ((0 : Int) ≤ x3 ∧ x3 < ((9 : Nat) : Int)) (
    (H.st v3 ((0 + (x2 : Int).toNat * 9) + (x3 : Int).toNat * 1) (.int .i64 (w64 (x6 + 1)))).bind fun H9 =>
    (H9.ldI .i64 v4 (0 + (0 : Int).toNat * 1)).bind fun x10 =>
    (H9.ldI .i64 v4 (0 + (2 : Int).toNat * 1)).bind fun x11 =>
    ck ((0 : Int) ≤ x10 ∧ x10 < ((9 : Nat) : Int)) (
    ck ((0 : Int) ≤ x11 ∧ x11 < ((9 : Nat) : Int)) (
    (H9.ldI .i64 v3 ((0 + (x10 : Int).toNat * 9) + (x11 : Int).toNat * 1)).bind fun x14 =>
    ck ((0 : Int) ≤ x10 ∧ x10 < ((9 : Nat) : Int)) (
    ck ((0 : Int) ≤ x11 ∧ x11 < ((9 : Nat) : Int)) (
    (H9.st v3 ((0 + (x10 : Int).toNat * 9) + (x11 : Int).toNat * 1) (.int .i64 (w64 (x14 + 1)))).bind fun H17 =>
    (H17.ldI .i64 v4 (0 + (1 : Int).toNat * 1)).bind fun x18 =>
    (H17.ldI .i64 v4 (0 + (2 : Int).toNat * 1)).bind fun x19 =>
    ck ((0 : Int) ≤ x18 ∧ x18 < ((9 : Nat) : Int)) (
    ck ((0 : Int) ≤ x19 ∧ x19 < ((9 : Nat) : Int)) (
    (H17.ldI .i64 v3 ((0 + (x18 : Int).toNat * 9) + (x19 : Int).toNat * 1)).bind fun x22 =>
    ck ((0 : Int) ≤ x18 ∧ x18 < ((9 : Nat) : Int)) (
    ck ((0 : Int) ≤ x19 ∧ x19 < ((9 : Nat) : Int)) (
    (H17.st v3 ((0 + (x18 : Int).toNat * 9) + (x19 : Int).toNat * 1) (.int .i64 (w64 (x22 + 1)))).bind fun H25 =>
    kt0 v1 v2 v3 v5 v6 (w64 (v7 + 1)) H25)))))))))))))
noncomputable def r54_l3 (kt2 : Nat → Int → Int → Hp → Option (Bool × Hp)) : Nat → Nat → Int → Int → Int → Int → Int → Hp → Option (Bool × Hp)
  | 0, _, _, _, _, _, _, _ => none
  | k_ + 1, v1, v2, v3, v4, v5, v6, H => if v6 < v5 then
    (ck ((0 : Int) ≤ v6 ∧ v6 < ((9 : Nat) : Int)) (
    ck ((0 : Int) ≤ v2 ∧ v2 < ((9 : Nat) : Int)) (
    (H.ldI .i64 v1 ((0 + (v6 : Int).toNat * 9) + (v2 : Int).toNat * 1)).bind fun x4 =>
    if x4 ≠ 1 then
      (some (false, H))
    else
      (r54_l3 kt2 k_ v1 v2 v3 v4 v5 (w64 (v6 + 1)) H))))
  else
    (kt2 v1 v3 (w64 (v4 + 1)) H)
noncomputable def r54_l2 : Nat → Nat → Int → Int → Hp → Option (Bool × Hp)
  | 0, _, _, _, _ => none
  | k_ + 1, v1, v2, v3, H => if v3 < v2 then
    (r54_l3 (fun v1_ v2_ v3_ H_ => r54_l2 k_ v1_ v2_ v3_ H_) FUEL v1 v3 v2 v3 v3 0 H)
  else
    (some (true, H))
noncomputable def r54_l0 : Nat → Int → Sl → Nat → Sl → Int → Int → Hp → Option (Bool × Hp)
  | 0, _, _, _, _, _, _, _ => none
  | k_ + 1, v1, v2, v3, v4, v5, v6, H => if v6 < v5 then
    (ck ((0 : Int) ≤ v6 ∧ v6 < (v4.len : Int)) (
    (H.ldI .i64 v4.b (v4.o + (v6 : Int).toNat * 3)).bind fun x3 =>
    (H.ldI .i64 v4.b ((v4.o + (v6 : Int).toNat * 3) + 1)).bind fun x4 =>
    (H.ldI .i64 v4.b ((v4.o + (v6 : Int).toNat * 3) + 2)).bind fun x5 =>
    ((H.push (.cells [.int .i64 0, .int .i64 0, .int .i64 0] false)).sts H.n 0 [.int .i64 x3, .int .i64 x4, .int .i64 x5]).bind fun H6 =>
    (H6.ldI .i64 H.n (0 + (0 : Int).toNat * 1)).bind fun x7 =>
    if x7 < 0 then
      (r54_j1 (fun v1_ v2_ v3_ v4_ v5_ v6_ H_ => r54_l0 k_ v1_ v2_ v3_ v4_ v5_ v6_ H_) v1 v2 v3 H.n v4 v5 v6 true H6)
    else
      ((H6.ldI .i64 H.n (0 + (0 : Int).toNat * 1)).bind fun x9 =>
      (H6.ldI .i64 H.n (0 + (1 : Int).toNat * 1)).bind fun x10 =>
      if x10 ≤ x9 then
        (r54_j1 (fun v1_ v2_ v3_ v4_ v5_ v6_ H_ => r54_l0 k_ v1_ v2_ v3_ v4_ v5_ v6_ H_) v1 v2 v3 H.n v4 v5 v6 true H6)
      else
        ((H6.ldI .i64 H.n (0 + (1 : Int).toNat * 1)).bind fun x12 =>
        (H6.ldI .i64 H.n (0 + (2 : Int).toNat * 1)).bind fun x13 =>
        if x13 ≤ x12 then
          (r54_j1 (fun v1_ v2_ v3_ v4_ v5_ v6_ H_ => r54_l0 k_ v1_ v2_ v3_ v4_ v5_ v6_ H_) v1 v2 v3 H.n v4 v5 v6 true H6)
        else
          ((H6.ldI .i64 H.n (0 + (2 : Int).toNat * 1)).bind fun x15 =>
          if v1 ≤ x15 then
            (r54_j1 (fun v1_ v2_ v3_ v4_ v5_ v6_ H_ => r54_l0 k_ v1_ v2_ v3_ v4_ v5_ v6_ H_) v1 v2 v3 H.n v4 v5 v6 true H6)
          else
            (if 0 < v6 then
              (ck ((0 : Int) ≤ (w64 (v6 - 1)) ∧ (w64 (v6 - 1)) < (v2.len : Int)) (
              (H6.ldI .i64 v2.b (v2.o + (w64 (v6 - 1) : Int).toNat * 3)).bind fun x19 =>
              (H6.ldI .i64 v2.b ((v2.o + (w64 (v6 - 1) : Int).toNat * 3) + 1)).bind fun x20 =>
              (H6.ldI .i64 v2.b ((v2.o + (w64 (v6 - 1) : Int).toNat * 3) + 2)).bind fun x21 =>
              (H6.ldI .i64 H.n 0).bind fun x22 =>
              (H6.ldI .i64 H.n (0 + 1)).bind fun x23 =>
              (H6.ldI .i64 H.n (0 + 2)).bind fun x24 =>
              (r92 x19 x20 x21 x22 x23 x24 H6).bind fun p25 =>
              r54_j1 (fun v1_ v2_ v3_ v4_ v5_ v6_ H_ => r54_l0 k_ v1_ v2_ v3_ v4_ v5_ v6_ H_) v1 v2 v3 H.n v4 v5 v6 (!p25.1) p25.2))
            else
              (r54_j1 (fun v1_ v2_ v3_ v4_ v5_ v6_ H_ => r54_l0 k_ v1_ v2_ v3_ v4_ v5_ v6_ H_) v1 v2 v3 H.n v4 v5 v6 false H6)))))))
  else
    (r54_l2 FUEL v3 v1 0 H)
noncomputable def r54 (a0 : Int) (a1 : Sl) (H : Hp) : Option (Bool × Hp) :=
  lt (H.push (.cells [.int .i64 0, .int .i64 0, .int .i64 0, .int .i64 0, .int .i64 0, .int .i64 0, .int .i64 0, .int .i64 0, .int .i64 0, .int .i64 0, .int .i64 0, .int .i64 0, .int .i64 0, .int .i64 0, .int .i64 0, .int .i64 0, .int .i64 0, .int .i64 0, .int .i64 0, .int .i64 0, .int .i64 0, .int .i64 0, .int .i64 0, .int .i64 0, .int .i64 0, .int .i64 0, .int .i64 0, .int .i64 0, .int .i64 0, .int .i64 0, .int .i64 0, .int .i64 0, .int .i64 0, .int .i64 0, .int .i64 0, .int .i64 0, .int .i64 0, .int .i64 0, .int .i64 0, .int .i64 0, .int .i64 0, .int .i64 0, .int .i64 0, .int .i64 0, .int .i64 0, .int .i64 0, .int .i64 0, .int .i64 0, .int .i64 0, .int .i64 0, .int .i64 0, .int .i64 0, .int .i64 0, .int .i64 0, .int .i64 0, .int .i64 0, .int .i64 0, .int .i64 0, .int .i64 0, .int .i64 0, .int .i64 0, .int .i64 0, .int .i64 0, .int .i64 0, .int .i64 0, .int .i64 0, .int .i64 0, .int .i64 0, .int .i64 0, .int .i64 0, .int .i64 0, .int .i64 0, .int .i64 0, .int .i64 0, .int .i64 0, .int .i64 0, .int .i64 0, .int .i64 0, .int .i64 0, .int .i64 0, .int .i64 0] false)) fun H1 =>
  r54_l0 FUEL a0 a1 H.n a1 (a1.len : Int) 0 H1
/- 12 congou/congoulaw08.PairsSpread -/
def ret12 : Bool → AV := fun r => .bool r
noncomputable def r12_l7 (app : App) (kt3 : Int → Sl → Sl → Sl → Int → Sl → Int → Sl → Int → Int → Sl → Int → Int → Hp → Option (Bool × Hp)) : Nat → Int → Sl → Sl → Sl → Int → Sl → Int → Sl → Int → Int → Sl → Int → Int → Int → Int → Int → Int → Hp → Option (Bool × Hp)
  | 0, _, _, _, _, _, _, _, _, _, _, _, _, _, _, _, _, _, _ => none
  | k_ + 1, v1, v2, v3, v4, v5, v6, v7, v8, v9, v10, v11, v12, v13, v14, v15, v16, v17, H => if v17 < 3 then
    (ck ((0 : Int) ≤ v17 ∧ v17 < ((3 : Nat) : Int)) (
    (apart false 1 [.int .i64 v14, .int .i64 v15, .int .i64 v16] ((v17 : Int).toNat * 1)).bind fun x3 =>
    (x3.asI .i64).bind fun x4 =>
    ck (¬ x4 < 0) (
    if (bitsOf .and .i64 (shrOf .i64 v7 x4) 1) = 1 then
      (some (false, H))
    else
      (ck (¬ x4 < 0) (
      r12_l7 app kt3 k_ v1 v2 v3 v4 v5 v6 (bitsOf .or .i64 v7 (shlOf .i64 1 x4)) v8 v9 v10 v11 v12 v13 v14 v15 v16 (w64 (v17 + 1)) H)))))
  else
    (kt3 v1 v2 v3 v4 v5 v6 v7 v8 v9 v10 v11 v12 (w64 (v13 + 1)) H)
noncomputable def r12_j5 (app : App) (kt3 : Int → Sl → Sl → Sl → Int → Sl → Int → Sl → Int → Int → Sl → Int → Int → Hp → Option (Bool × Hp)) (v1 : Int) (v2 : Sl) (v3 : Sl) (v4 : Sl) (v5 : Int) (v6 : Sl) (v7 : Int) (v8 : Int) (v9 : Sl) (v10 : Int) (v11 : Int) (v12 : Sl) (v13 : Int) (v14 : Int) (v15 : Bool) (H : Hp) : Option (Bool × Hp) :=
  if v15 = true then
    (some (false, H))
  else
    (ck ((0 : Int) ≤ v8 ∧ v8 < (v4.len : Int)) (
    (H.ldI .i64 v4.b (v4.o + (v8 : Int).toNat * 1)).bind fun x3 =>
    ck ((0 : Int) ≤ v8 ∧ v8 < (v4.len : Int)) (
    (H.st v4.b (v4.o + (v8 : Int).toNat * 1) (.int .i64 (w64 (x3 + 1)))).bind fun H5 =>
    ck ((0 : Int) ≤ v8 ∧ v8 < (v2.len : Int)) (
    (H5.ldI .i64 v2.b (v2.o + (v8 : Int).toNat * 3)).bind fun x7 =>
    (H5.ldI .i64 v2.b ((v2.o + (v8 : Int).toNat * 3) + 1)).bind fun x8 =>
    (H5.ldI .i64 v2.b ((v2.o + (v8 : Int).toNat * 3) + 2)).bind fun x9 =>
    r12_l7 app kt3 FUEL v1 v2 v3 v4 v5 v6 v7 v9 v10 v11 v12 v13 v14 x7 x8 x9 0 H5))))
noncomputable def r12_j6 (app : App) (kt2 : Int → Sl → Sl → Sl → Sl → Int → Int → Hp → Option (Bool × Hp)) (v1 : Int) (v2 : Sl) (v3 : Sl) (v4 : Sl) (v5 : Sl) (v6 : Int) (v7 : Int) (v8 : Bool) (H : Hp) : Option (Bool × Hp) :=
  if v8 = true then
    (some (false, H))
  else
    (kt2 v1 v2 v3 v4 v5 v6 (w64 (v7 + 1)) H)
noncomputable def r12_l3 (app : App) (kt2 : Int → Sl → Sl → Sl → Sl → Int → Int → Hp → Option (Bool × Hp)) : Nat → Int → Sl → Sl → Sl → Int → Sl → Int → Sl → Int → Int → Sl → Int → Int → Hp → Option (Bool × Hp)
  | 0, _, _, _, _, _, _, _, _, _, _, _, _, _, _ => none
  | k_ + 1, v1, v2, v3, v4, v5, v6, v7, v8, v9, v10, v11, v12, v13, H => if v13 < v12 then
    (ck ((0 : Int) ≤ v13 ∧ v13 < (v11.len : Int)) (
    (H.ldI .i64 v11.b (v11.o + (v13 : Int).toNat * 1)).bind fun x3 =>
    if x3 < 0 then
      (r12_j5 app (fun v1_ v2_ v3_ v4_ v5_ v6_ v7_ v8_ v9_ v10_ v11_ v12_ v13_ H_ => r12_l3 app kt2 k_ v1_ v2_ v3_ v4_ v5_ v6_ v7_ v8_ v9_ v10_ v11_ v12_ v13_ H_) v1 v2 v3 v4 v5 v6 v7 x3 v8 v9 v10 v11 v12 v13 true H)
    else
      (if (v2.len : Int) ≤ x3 then
        (r12_j5 app (fun v1_ v2_ v3_ v4_ v5_ v6_ v7_ v8_ v9_ v10_ v11_ v12_ v13_ H_ => r12_l3 app kt2 k_ v1_ v2_ v3_ v4_ v5_ v6_ v7_ v8_ v9_ v10_ v11_ v12_ v13_ H_) v1 v2 v3 v4 v5 v6 v7 x3 v8 v9 v10 v11 v12 v13 true H)
      else
        (if 0 < v13 then
          (ck ((0 : Int) ≤ (w64 (v13 - 1)) ∧ (w64 (v13 - 1)) < (v6.len : Int)) (
          (H.ldI .i64 v6.b (v6.o + (w64 (v13 - 1) : Int).toNat * 1)).bind fun x8 =>
          r12_j5 app (fun v1_ v2_ v3_ v4_ v5_ v6_ v7_ v8_ v9_ v10_ v11_ v12_ v13_ H_ => r12_l3 app kt2 k_ v1_ v2_ v3_ v4_ v5_ v6_ v7_ v8_ v9_ v10_ v11_ v12_ v13_ H_) v1 v2 v3 v4 v5 v6 v7 x3 v8 v9 v10 v11 v12 v13 (decide (x3 ≤ x8)) H))
        else
          (r12_j5 app (fun v1_ v2_ v3_ v4_ v5_ v6_ v7_ v8_ v9_ v10_ v11_ v12_ v13_ H_ => r12_l3 app kt2 k_ v1_ v2_ v3_ v4_ v5_ v6_ v7_ v8_ v9_ v10_ v11_ v12_ v13_ H_) v1 v2 v3 v4 v5 v6 v7 x3 v8 v9 v10 v11 v12 v13 false H)))))
  else
    (ck (¬ v1 < 0) (
    if v7 ≠ (w64 ((shlOf .i64 1 v1) - 1)) then
      (r12_j6 app kt2 v1 v2 v3 v4 v8 v9 v10 true H)
    else
      (if 0 < v5 then
        (ck ((0 : Int) ≤ (w64 (v5 - 1)) ∧ (w64 (v5 - 1)) < (v3.len : Int)) (
        (H.ldSl v3.b (v3.o + (w64 (v5 - 1) : Int).toNat * 1)).bind fun x13 =>
        (r50 x13 v6 H).bind fun p14 =>
        r12_j6 app kt2 v1 v2 v3 v4 v8 v9 v10 (decide (0 ≤ p14.1)) p14.2))
      else
        (r12_j6 app kt2 v1 v2 v3 v4 v8 v9 v10 false H))))
noncomputable def r12_l4 (app : App) : Nat → Sl → Sl → Int → Int → Hp → Option (Bool × Hp)
  | 0, _, _, _, _, _ => none
  | k_ + 1, v1, v2, v3, v4, H => if v4 < v3 then
    (ck ((0 : Int) ≤ v4 ∧ v4 < (v2.len : Int)) (
    (H.ldI .i64 v2.b (v2.o + (v4 : Int).toNat * 1)).bind fun x3 =>
    if x3 ≠ 1 then
      (some (false, H))
    else
      (r12_l4 app k_ v1 v2 v3 (w64 (v4 + 1)) H)))
  else
    (if (v1.len : Int) = 4 then
      ((r23 app H).bind fun p6 =>
      some (p6.1, p6.2))
    else
      (some (false, H)))
noncomputable def r12_l2 (app : App) : Nat → Int → Sl → Sl → Sl → Sl → Int → Int → Hp → Option (Bool × Hp)
  | 0, _, _, _, _, _, _, _, _ => none
  | k_ + 1, v1, v2, v3, v4, v5, v6, v7, H => if v7 < v6 then
    (ck ((0 : Int) ≤ v7 ∧ v7 < (v5.len : Int)) (
    (H.ldSl v5.b (v5.o + (v7 : Int).toNat * 1)).bind fun x3 =>
    r12_l3 app (fun v1_ v2_ v3_ v4_ v5_ v6_ v7_ H_ => r12_l2 app k_ v1_ v2_ v3_ v4_ v5_ v6_ v7_ H_) FUEL v1 v2 v3 v4 v7 x3 0 v5 v6 v7 x3 (x3.len : Int) 0 H))
  else
    (if v1 ≠ 9 then
      (if (v3.len : Int) = (w64 (Int.tdiv (Int.tmod v1 7) 3)) then
        ((r23 app H).bind fun p6 =>
        some (p6.1, p6.2))
      else
        (some (false, H)))
    else
      (r12_l4 app FUEL v3 v4 (v4.len : Int) 0 H))
noncomputable def r12_j1 (app : App) (v1 : Int) (v2 : Sl) (v3 : Sl) (v4 : Bool) (H : Hp) : Option (Bool × Hp) :=
  if v4 = true then
    (some (false, H))
  else
    (ck ((0 : Int) ≤ (v2.len : Int) ∧ (v2.len : Int) ≤ (v2.len : Int) ∧ (v2.len : Int) ≤ 4294967296) (
    lt (H.push (.cells (zerosA [.int .i64 0] (((v2.len : Int) : Int).toNat * 1)) false)) fun H3 =>
    r12_l2 app FUEL v1 v2 v3 ⟨false, H.n, 0, ((v2.len : Int) : Int).toNat, ((v2.len : Int) : Int).toNat, 0⟩ v3 (v3.len : Int) 0 H3))
noncomputable def r12_j0 (app : App) (v1 : Int) (v2 : Sl) (v3 : Sl) (v4 : Int) (v5 : Bool) (v6 : Int) (v7 : Bool) (H : Hp) : Option (Bool × Hp) :=
  if v7 = true then
    (if v4 = 2 then
      (if v6 = 0 then
        (if v5 = true then
          (if v6 = 2 then
            ((r23 app H).bind fun p6 =>
            some (p6.1, p6.2))
          else
            (some (false, H)))
        else
          ((r23 app H).bind fun p7 =>
          some (p7.1, p7.2)))
      else
        (if v6 = 2 then
          ((r23 app H).bind fun p9 =>
          some (p9.1, p9.2))
        else
          (some (false, H))))
    else
      (some (false, H)))
  else
    (if v1 < 3 then
      (r12_j1 app v1 v2 v3 true H)
    else
      (if 9 < v1 then
        (r12_j1 app v1 v2 v3 true H)
      else
        ((r54 v1 v2 H).bind fun p12 =>
        r12_j1 app v1 v2 v3 (!p12.1) p12.2)))
noncomputable def r12 (app : App) (a0 : Int) (a1 : Sl) (H : Hp) : Option (Bool × Hp) :=
  (r52 a1 H).bind fun p1 =>
  (r51 app a0 p1.1 p1.2).bind fun p2 =>
  (r52 a1 p2.2).bind fun p3 =>
  (r53 app a0 p3.1 p3.2).bind fun p4 =>
  if p2.1.2 ≠ 0 then
    (r12_j0 app a0 a1 p2.1.1 p2.1.2 p4.1.1 p4.1.2 true p4.2)
  else
    (if p4.1.2 ≠ 0 then
      (r12_j0 app a0 a1 p2.1.1 p2.1.2 p4.1.1 p4.1.2 true p4.2)
    else
      (r12_j0 app a0 a1 p2.1.1 p2.1.2 p4.1.1 p4.1.2 (!p4.1.1) p4.2))
/- 36 slices.Clone[[]int,int] -/
def ret36 : Sl → AV := fun r => .sl r
noncomputable def r36 (a0 : Sl) (H : Hp) : Option (Sl × Hp) :=
  if a0.nil = true then
    (some (⟨true, 0, 0, 0, 0, 0⟩, H))
  else
    (((H.push (.cells [] false)).lds a0.b a0.o (a0.len * 1)).bind fun x2 =>
    ck (x2.all AV.one = true) (
    ((H.push (.cells [] false)).app 1 ⟨false, H.n, 0, 0, 0, 0⟩ x2 a0.len).bind fun x4 =>
    some (x4.1, x4.2)))
/- 74 congou/pairs.First$1 -/
def ret74 : Bool → AV := fun r => .bool r
noncomputable def r74 (a0 : Sl) (c0 : Nat) (H : Hp) : Option (Bool × Hp) :=
  (r36 a0 H).bind fun p1 =>
  (p1.2.st c0 0 (.sl p1.1)).bind fun H2 =>
  some (false, H2)
/- 90 congou/pairs.Spreads$1 -/
def ret90 : Unit → AV := fun _ => .tup []
noncomputable def r90_l0 (app : App) : Nat → Int → Sl → Nat → Nat → Int → Hp → Option (Unit × Hp)
  | 0, _, _, _, _, _, _ => none
  | k_ + 1, v1, v2, v3, v4, v5, H => (H.ldSl v3 0).bind fun x1 =>
  if v5 < (x1.len : Int) then
    ((H.ldSl v3 0).bind fun x3 =>
    ck ((0 : Int) ≤ v5 ∧ v5 < (x3.len : Int)) (
    (H.ldI .i64 x3.b ((x3.o + (v5 : Int).toNat * 3) + (0 : Int).toNat * 1)).bind fun x5 =>
    ck (¬ x5 < 0) (
    (H.ldSl v3 0).bind fun x7 =>
    ck ((0 : Int) ≤ v5 ∧ v5 < (x7.len : Int)) (
    (H.ldI .i64 x7.b ((x7.o + (v5 : Int).toNat * 3) + (1 : Int).toNat * 1)).bind fun x9 =>
    ck (¬ x9 < 0) (
    (H.ldSl v3 0).bind fun x11 =>
    ck ((0 : Int) ≤ v5 ∧ v5 < (x11.len : Int)) (
    (H.ldI .i64 x11.b ((x11.o + (v5 : Int).toNat * 3) + (2 : Int).toNat * 1)).bind fun x13 =>
    ck (¬ x13 < 0) (
    if (bitsOf .and .i64 (bitsOf .or .i64 (bitsOf .or .i64 (shlOf .i64 1 x5) (shlOf .i64 1 x9)) (shlOf .i64 1 x13)) v1) = 0 then
      ((H.ldV v4 0).bind fun x16 =>
      ck ((0 : Int) ≤ 0 ∧ 0 ≤ (v2.len : Int) ∧ (v2.len : Int) ≤ (v2.len : Int) ∧ (v2.len : Int) ≤ (v2.cap : Int)) (
      (H.apN 1 (v2.cut3 1 (0 : Int).toNat ((v2.len : Int) : Int).toNat ((v2.len : Int) : Int).toNat) [.int .i64 v5] 1).bind fun x18 =>
      (callv app x16 [.int .i64 (w64 (v5 + 1)), .int .i64 (bitsOf .or .i64 v1 (bitsOf .or .i64 (bitsOf .or .i64 (shlOf .i64 1 x5) (shlOf .i64 1 x9)) (shlOf .i64 1 x13))), .sl x18.1] x18.2).bind fun p19 =>
      ck ((H.push (.cells [.int .i64 v5] false)).isV v4 0 x16 = true) (
      ck (x18.2.isV v4 0 x16 = true) (
      r90_l0 app k_ v1 v2 v3 v4 (w64 (v5 + 1)) p19.2))))
    else
      (r90_l0 app k_ v1 v2 v3 v4 (w64 (v5 + 1)) H))))))))
  else
    (some ((), H))
noncomputable def r90 (app : App) (a0 : Int) (a1 : Int) (a2 : Sl) (c0 : Nat) (c1 : Nat) (c2 : Nat) (c3 : Nat) (H : Hp) : Option (Unit × Hp) :=
  (H.ldI .i64 c0 0).bind fun x1 =>
  ck (¬ x1 < 0) (
  if a1 = (w64 ((shlOf .i64 1 x1) - 1)) then
    ((H.ldSl c1 0).bind fun x4 =>
    (r36 a2 H).bind fun p5 =>
    (p5.2.apN 1 x4 [.sl p5.1] 1).bind fun x6 =>
    (x6.2.st c1 0 (.sl x6.1)).bind fun H7 =>
    ck (p5.2.ldSl c1 0 = some x4) (
    ck ((p5.2.push (.cells [.sl p5.1] false)).ldSl c1 0 = some x4) (
    some ((), H7))))
  else
    (r90_l0 app FUEL a1 a2 c2 c3 a0 H))
/- 108 slices.Index[[]int,int] -/
def ret108 : Int → AV := fun r => .int .i64 r
noncomputable def r108_l0 : Nat → Sl → Int → Int → Int → Hp → Option (Int × Hp)
  | 0, _, _, _, _, _ => none
  | k_ + 1, v1, v2, v3, v4, H => if v4 < v3 then
    (ck ((0 : Int) ≤ v4 ∧ v4 < (v1.len : Int)) (
    (H.ldI .i64 v1.b (v1.o + (v4 : Int).toNat * 1)).bind fun x3 =>
    if v2 = x3 then
      (some (v4, H))
    else
      (r108_l0 k_ v1 v2 v3 (w64 (v4 + 1)) H)))
  else
    (some ((-1), H))
noncomputable def r108 (a0 : Sl) (a1 : Int) (H : Hp) : Option (Int × Hp) :=
  r108_l0 FUEL a0 a1 (a0.len : Int) 0 H
/- 107 congou/pairs.rows$1 -/
def ret107 : Bool → AV := fun r => .bool r
noncomputable def r107_j1 (app : App) (kt0 : Int → Nat → Nat → Nat → Nat → Int → Int → Hp → Option (Bool × Hp)) (v1 : Int) (v2 : Nat) (v3 : Nat) (v4 : Nat) (v5 : Nat) (v6 : Int) (v7 : Int) (v8 : Int) (v9 : Bool) (H : Hp) : Option (Bool × Hp) :=
  if v9 = true then
    (kt0 v1 v2 v3 v4 v5 v6 (w64 (v7 + 1)) H)
  else
    ((H.ldSl v2 0).bind fun x2 =>
    (H.ldSl v2 0).bind fun x3 =>
    ck ((0 : Int) ≤ v6 ∧ v6 < (x2.len : Int)) (
    (H.st x2.b (x2.o + (v6 : Int).toNat * 1) (.int .i64 v7)).bind fun H5 =>
    ck ((0 : Int) ≤ v8 ∧ v8 < (x3.len : Int)) (
    (H5.st x3.b (x3.o + (v8 : Int).toNat * 1) (.int .i64 v7)).bind fun H7 =>
    ck (H5.ldSl v2 0 = some x3) (
    ck (H7.ldSl v2 0 = some x3) (
    (H7.ldV v5 0).bind fun x10 =>
    ck (¬ v7 < 0) (
    (callv app x10 [.int .i64 (bitsOf .or .i64 v1 (shlOf .i64 1 v7))] H7).bind fun p12 =>
    (p12.1.asB).bind fun x13 =>
    (p12.2.ldSl v2 0).bind fun x14 =>
    (p12.2.ldSl v2 0).bind fun x15 =>
    ck ((0 : Int) ≤ v6 ∧ v6 < (x14.len : Int)) (
    (p12.2.st x14.b (x14.o + (v6 : Int).toNat * 1) (.int .i64 0)).bind fun H17 =>
    ck ((0 : Int) ≤ v8 ∧ v8 < (x15.len : Int)) (
    (H17.st x15.b (x15.o + (v8 : Int).toNat * 1) (.int .i64 0)).bind fun H19 =>
    ck (H17.ldSl v2 0 = some x15) (
    ck (H19.ldSl v2 0 = some x15) (
    if x13 = true then
      (kt0 v1 v2 v3 v4 v5 v6 (w64 (v7 + 1)) H19)
    else
      (some (false, H19))))))))))))
noncomputable def r107_l0 (app : App) : Nat → Int → Nat → Nat → Nat → Nat → Int → Int → Hp → Option (Bool × Hp)
  | 0, _, _, _, _, _, _, _, _ => none
  | k_ + 1, v1, v2, v3, v4, v5, v6, v7, H => (H.ldI .i64 v3 0).bind fun x1 =>
  if v7 ≤ x1 then
    ((H.ldI .i64 v4 0).bind fun x3 =>
    ck (¬ v7 < 0) (
    if (bitsOf .and .i64 (shrOf .i64 v1 v7) 1) = 1 then
      (r107_j1 app (fun v1_ v2_ v3_ v4_ v5_ v6_ v7_ H_ => r107_l0 app k_ v1_ v2_ v3_ v4_ v5_ v6_ v7_ H_) v1 v2 v3 v4 v5 v6 v7 (w64 ((w64 ((w64 (v6 + v7)) + x3)) - 1)) true H)
    else
      ((H.ldSl v2 0).bind fun x6 =>
      if (x6.len : Int) ≤ (w64 ((w64 ((w64 (v6 + v7)) + x3)) - 1)) then
        (r107_j1 app (fun v1_ v2_ v3_ v4_ v5_ v6_ v7_ H_ => r107_l0 app k_ v1_ v2_ v3_ v4_ v5_ v6_ v7_ H_) v1 v2 v3 v4 v5 v6 v7 (w64 ((w64 ((w64 (v6 + v7)) + x3)) - 1)) true H)
      else
        ((H.ldSl v2 0).bind fun x8 =>
        ck ((0 : Int) ≤ (w64 ((w64 ((w64 (v6 + v7)) + x3)) - 1)) ∧ (w64 ((w64 ((w64 (v6 + v7)) + x3)) - 1)) < (x8.len : Int)) (
        (H.ldI .i64 x8.b (x8.o + (w64 ((w64 ((w64 (v6 + v7)) + x3)) - 1) : Int).toNat * 1)).bind fun x10 =>
        r107_j1 app (fun v1_ v2_ v3_ v4_ v5_ v6_ v7_ H_ => r107_l0 app k_ v1_ v2_ v3_ v4_ v5_ v6_ v7_ H_) v1 v2 v3 v4 v5 v6 v7 (w64 ((w64 ((w64 (v6 + v7)) + x3)) - 1)) (decide (x10 ≠ 0)) H)))))
  else
    (some (true, H))
noncomputable def r107 (app : App) (a0 : Int) (c0 : Nat) (c1 : Nat) (c2 : Nat) (c3 : Nat) (c4 : Nat) (H : Hp) : Option (Bool × Hp) :=
  (H.ldSl c0 0).bind fun x1 =>
  (r108 x1 0 H).bind fun p2 =>
  if p2.1 < 0 then
    ((p2.2.ldV c1 0).bind fun x4 =>
    (p2.2.ldSl c0 0).bind fun x5 =>
    (callv app x4 [.sl x5] p2.2).bind fun p6 =>
    (p6.1.asB).bind fun x7 =>
    some (x7, p6.2))
  else
    (r107_l0 app FUEL a0 c0 c2 c3 c4 p2.1 1 p2.2)
/- 112 (congou/pairs.together).fits$1 -/
def ret112 : Bool → AV := fun r => .bool r
noncomputable def r112 (a0_0 : Int) (a0_1 : Int) (c0 : Nat) (H : Hp) : Option (Bool × Hp) :=
  lt (H.push (.cells [.int .i64 a0_0, .int .i64 a0_1] false)) fun H1 =>
  (H1.ldM c0 0).bind fun x2 =>
  (H1.ldI .i64 H.n 0).bind fun x3 =>
  (H1.ldI .i64 H.n (0 + 1)).bind fun x4 =>
  (H1.mgetT (.arr 2 .i64) x2 (.agg [.int .i64 x3, .int .i64 x4])).bind fun x5 =>
  ((x5.getD (.bool false)).asB).bind fun x6 =>
  some (x6, H1)
end Go.Lt.P8
