/- PRINTED BY A PROGRAM OF OURS: what each function that 'PairsRounds' reaches computes on the abstract heap, and that the translated code does just that. Nothing is asked of the input. -/
import Derived.Test.YthmhdbmpeepmaaaG19R0
set_option linter.unusedVariables false
set_option linter.unusedSimpArgs false
set_option maxRecDepth 100000
set_option maxHeartbeats 4000000
namespace Go.Lt.P8
open Go Go.Lt Go.Proofs
/- 104 slices.pdqsortCmpFunc[[2]int] -/
def ret104 : Unit → AV := fun _ => .tup []
noncomputable def r104_j1 (app : App) (kt0 : Sl → Int → Int → Int → AV → Bool → Bool → Hp → Option (Unit × Hp)) (v1 : Sl) (v2 : Int) (v3 : Int) (v4 : Int) (v5 : AV) (v6 : Bool) (v7 : Bool) (v8 : Int) (v9 : Int) (v10 : Bool) (H : Hp) : Option (Unit × Hp) :=
  if v10 = true then
    ((r120 app v1 v2 v3 v9 v5 H).bind fun p2 =>
    kt0 v1 p2.1 v3 v4 v5 v6 v7 p2.2)
  else
    ((r121 app v1 v2 v3 v9 v5 H).bind fun p3 =>
    if (w64 (p3.1.1 - v2)) < (w64 (v3 - p3.1.1)) then
      ((app 104 [.sl v1, .int .i64 v2, .int .i64 p3.1.1, .int .i64 v4, v5] p3.2).bind fun p5 =>
      kt0 v1 (w64 (p3.1.1 + 1)) v3 v4 v5 (decide ((w64 (Int.tdiv v8 8)) ≤ (w64 (p3.1.1 - v2)))) p3.1.2 p5.2)
    else
      ((app 104 [.sl v1, .int .i64 (w64 (p3.1.1 + 1)), .int .i64 v3, .int .i64 v4, v5] p3.2).bind fun p6 =>
      kt0 v1 v2 p3.1.1 v4 v5 (decide ((w64 (Int.tdiv v8 8)) ≤ (w64 (v3 - p3.1.1)))) p3.1.2 p6.2))
noncomputable def r104_j2 (app : App) (kt0 : Sl → Int → Int → Int → AV → Bool → Bool → Hp → Option (Unit × Hp)) (v1 : Sl) (v2 : Int) (v3 : Int) (v4 : Int) (v5 : AV) (v6 : Bool) (v7 : Bool) (v8 : Int) (v9 : Int) (H : Hp) : Option (Unit × Hp) :=
  if 0 < v2 then
    (ck ((0 : Int) ≤ (w64 (v2 - 1)) ∧ (w64 (v2 - 1)) < (v1.len : Int)) (
    (H.ldI .i64 v1.b (v1.o + (w64 (v2 - 1) : Int).toNat * 2)).bind fun x3 =>
    (H.ldI .i64 v1.b ((v1.o + (w64 (v2 - 1) : Int).toNat * 2) + 1)).bind fun x4 =>
    ck ((0 : Int) ≤ v9 ∧ v9 < (v1.len : Int)) (
    (H.ldI .i64 v1.b (v1.o + (v9 : Int).toNat * 2)).bind fun x6 =>
    (H.ldI .i64 v1.b ((v1.o + (v9 : Int).toNat * 2) + 1)).bind fun x7 =>
    (callv app v5 [.agg [.int .i64 x3, .int .i64 x4], .agg [.int .i64 x6, .int .i64 x7]] H).bind fun p8 =>
    (p8.1.asI .i64).bind fun x9 =>
    r104_j1 app kt0 v1 v2 v3 v4 v5 v6 v7 v8 v9 (!(decide (x9 < 0))) p8.2)))
  else
    (r104_j1 app kt0 v1 v2 v3 v4 v5 v6 v7 v8 v9 false H)
noncomputable def r104_j3 (app : App) (kt0 : Sl → Int → Int → Int → AV → Bool → Bool → Hp → Option (Unit × Hp)) (v1 : Sl) (v2 : Int) (v3 : Int) (v4 : Int) (v5 : AV) (v6 : Bool) (v7 : Bool) (v8 : Int) (v9 : Int) (v10 : Bool) (H : Hp) : Option (Unit × Hp) :=
  if v10 = true then
    ((r119 app v1 v2 v3 v5 H).bind fun p2 =>
    if p2.1 = true then
      (some ((), p2.2))
    else
      (r104_j2 app kt0 v1 v2 v3 v4 v5 v6 v7 v8 v9 p2.2))
  else
    (r104_j2 app kt0 v1 v2 v3 v4 v5 v6 v7 v8 v9 H)
noncomputable def r104_j4 (app : App) (kt0 : Sl → Int → Int → Int → AV → Bool → Bool → Hp → Option (Unit × Hp)) (v1 : Sl) (v2 : Int) (v3 : Int) (v4 : Int) (v5 : AV) (v6 : Bool) (v7 : Bool) (v8 : Int) (v9 : Int) (v10 : Int) (H : Hp) : Option (Unit × Hp) :=
  if v6 = true then
    (if v7 = true then
      (r104_j3 app kt0 v1 v2 v3 v4 v5 true true v8 v9 (decide (v10 = 1)) H)
    else
      (r104_j3 app kt0 v1 v2 v3 v4 v5 true false v8 v9 false H))
  else
    (r104_j3 app kt0 v1 v2 v3 v4 v5 false v7 v8 v9 false H)
noncomputable def r104_j5 (app : App) (kt0 : Sl → Int → Int → Int → AV → Bool → Bool → Hp → Option (Unit × Hp)) (v1 : Sl) (v2 : Int) (v3 : Int) (v4 : Int) (v5 : AV) (v6 : Bool) (v7 : Bool) (v8 : Int) (H : Hp) : Option (Unit × Hp) :=
  (r117 app v1 v2 v3 v5 H).bind fun p1 =>
  if p1.1.2 = 2 then
    ((r118 v1 v2 v3 v5 p1.2).bind fun p3 =>
    r104_j4 app kt0 v1 v2 v3 v4 v5 v6 v7 v8 (w64 ((w64 (v3 - 1)) - (w64 (p1.1.1 - v2)))) 1 p3.2)
  else
    (r104_j4 app kt0 v1 v2 v3 v4 v5 v6 v7 v8 p1.1.1 p1.1.2 p1.2)
noncomputable def r104_l0 (app : App) : Nat → Sl → Int → Int → Int → AV → Bool → Bool → Hp → Option (Unit × Hp)
  | 0, _, _, _, _, _, _, _, _ => none
  | k_ + 1, v1, v2, v3, v4, v5, v6, v7, H => if (w64 (v3 - v2)) ≤ 12 then
    ((r114 app v1 v2 v3 v5 H).bind fun p2 =>
    some ((), p2.2))
  else
    (if v4 = 0 then
      ((r115 app v1 v2 v3 v5 H).bind fun p4 =>
      some ((), p4.2))
    else
      (if v6 = true then
        (r104_j5 app (fun v1_ v2_ v3_ v4_ v5_ v6_ v7_ H_ => r104_l0 app k_ v1_ v2_ v3_ v4_ v5_ v6_ v7_ H_) v1 v2 v3 v4 v5 true v7 (w64 (v3 - v2)) H)
      else
        ((r116 v1 v2 v3 v5 H).bind fun p6 =>
        r104_j5 app (fun v1_ v2_ v3_ v4_ v5_ v6_ v7_ H_ => r104_l0 app k_ v1_ v2_ v3_ v4_ v5_ v6_ v7_ H_) v1 v2 v3 (w64 (v4 - 1)) v5 false v7 (w64 (v3 - v2)) p6.2)))
noncomputable def r104 (app : App) (a0 : Sl) (a1 : Int) (a2 : Int) (a3 : Int) (a4 : AV) (H : Hp) : Option (Unit × Hp) :=
  r104_l0 app FUEL a0 a1 a2 a3 a4 true true H
/- 66 slices.SortFunc[[][2]int,[2]int] -/
def ret66 : Unit → AV := fun _ => .tup []
noncomputable def r66 (app : App) (a0 : Sl) (a1 : AV) (H : Hp) : Option (Unit × Hp) :=
  (r105 (IntKind.wrap .u64 ((a0.len : Int))) H).bind fun p1 =>
  (r104 app a0 0 (a0.len : Int) p1.1 a1 p1.2).bind fun p2 =>
  some ((), p2.2)
/- 106 congou/pairs.ordered[[2]int] -/
def ret106 : Sl → AV := fun r => .sl r
noncomputable def r106 (app : App) (a0 : Sl) (a1 : AV) (H : Hp) : Option (Sl × Hp) :=
  (r66 app a0 a1 H).bind fun p1 =>
  some (a0, p1.2)
/- 68 congou/pairs.Rounds -/
def ret68 : Sl × Int → AV := fun r => .tup [.sl r.1, .int .i64 r.2]
noncomputable def r68_l2 (app : App) (kt1 : Int → Sl → Int → Sl → Int → Int → Int → Int → Hp → Option ((Sl × Int) × Hp)) : Nat → Int → Sl → Int → Sl → Int → Int → Int → Int → Int → Int → Hp → Option ((Sl × Int) × Hp)
  | 0, _, _, _, _, _, _, _, _, _, _, _ => none
  | k_ + 1, v1, v2, v3, v4, v5, v6, v7, v8, v9, v10, H => if v6 < v1 then
    (ck (v1 ≠ 0) (
    if (Int.tmod (w64 ((w64 (v5 + v6)) - (w64 (2 * v3)))) v1) = 0 then
      ((H.apN 2 v4 [.int .i64 v5, .int .i64 v6] 1).bind fun x4 =>
      r68_l2 app kt1 k_ v1 v2 v3 x4.1 v5 (w64 (v6 + 1)) v7 v8 v9 v10 x4.2)
    else
      (r68_l2 app kt1 k_ v1 v2 v3 v4 v5 (w64 (v6 + 1)) v7 v8 v9 v10 H)))
  else
    (kt1 v1 v2 v3 v4 v7 v8 v9 (w64 (v10 + 1)) H)
noncomputable def r68_l1 (app : App) (kt0 : Int → Sl → Int → Int → Hp → Option ((Sl × Int) × Hp)) : Nat → Int → Sl → Int → Sl → Int → Int → Int → Int → Hp → Option ((Sl × Int) × Hp)
  | 0, _, _, _, _, _, _, _, _, _ => none
  | k_ + 1, v1, v2, v3, v4, v5, v6, v7, v8, H => if v8 < v7 then
    (r68_l2 app (fun v1_ v2_ v3_ v4_ v5_ v6_ v7_ v8_ H_ => r68_l1 app kt0 k_ v1_ v2_ v3_ v4_ v5_ v6_ v7_ v8_ H_) FUEL v1 v2 v3 v4 v8 (w64 (v8 + 1)) v5 v6 v7 v8 H)
  else
    ((r106 app v4 (.fn 102 [] []) H).bind fun p2 =>
    (p2.2.apN 1 v2 [.sl p2.1] 1).bind fun x3 =>
    kt0 v1 x3.1 v5 (w64 (v6 + 1)) x3.2)
noncomputable def r68_l0 (app : App) : Nat → Int → Sl → Int → Int → Hp → Option ((Sl × Int) × Hp)
  | 0, _, _, _, _, _ => none
  | k_ + 1, v1, v2, v3, v4, H => if v4 < v3 then
    (lt (H.push (.cells [.int .i64 v4, .int .i64 v1] false)) fun H2 =>
    r68_l1 app (fun v1_ v2_ v3_ v4_ H_ => r68_l0 app k_ v1_ v2_ v3_ v4_ H_) FUEL v1 v2 v4 ⟨false, H.n, 0, 1, 1, 0⟩ v3 v4 v1 0 H2)
  else
    (some ((v2, 0), H))
noncomputable def r68 (app : App) (a0 : Int) (H : Hp) : Option ((Sl × Int) × Hp) :=
  (r100 a0 H).bind fun p1 =>
  if p1.1 = true then
    (r68_l0 app FUEL (w64 ((w64 (2 * a0)) - 1)) ⟨true, 0, 0, 0, 0, 0⟩ (w64 ((w64 (2 * a0)) - 1)) 0 p1.2)
  else
    (some ((⟨true, 0, 0, 0, 0, 0⟩, 2), p1.2))
/- 69 slices.EqualFunc[[][][2]int,[][][2]int,[][2]int,[][2]int] -/
def ret69 : Bool → AV := fun r => .bool r
noncomputable def r69_l0 (app : App) : Nat → Sl → AV → Sl → Int → Int → Hp → Option (Bool × Hp)
  | 0, _, _, _, _, _, _ => none
  | k_ + 1, v1, v2, v3, v4, v5, H => if v5 < v4 then
    (ck ((0 : Int) ≤ v5 ∧ v5 < (v3.len : Int)) (
    (H.ldSl v3.b (v3.o + (v5 : Int).toNat * 1)).bind fun x3 =>
    ck ((0 : Int) ≤ v5 ∧ v5 < (v1.len : Int)) (
    (H.ldSl v1.b (v1.o + (v5 : Int).toNat * 1)).bind fun x5 =>
    (callv app v2 [.sl x3, .sl x5] H).bind fun p6 =>
    (p6.1.asB).bind fun x7 =>
    if x7 = true then
      (r69_l0 app k_ v1 v2 v3 v4 (w64 (v5 + 1)) p6.2)
    else
      (some (false, p6.2)))))
  else
    (some (true, H))
noncomputable def r69 (app : App) (a0 : Sl) (a1 : Sl) (a2 : AV) (H : Hp) : Option (Bool × Hp) :=
  if (a0.len : Int) ≠ (a1.len : Int) then
    (some (false, H))
  else
    (r69_l0 app FUEL a1 a2 a0 (a0.len : Int) 0 H)
/- 70 congou/congouref08.Rounds -/
def ret70 : Sl → AV := fun r => .sl r
noncomputable def r70_j3 (kt2 : Int → Sl → Int → Int → Sl → Int → Int → Int → Int → Int → Int → Hp → Option (Sl × Hp)) (v1 : Int) (v2 : Sl) (v3 : Int) (v4 : Int) (v5 : Sl) (v6 : Int) (v7 : Int) (v8 : Int) (v9 : Int) (v10 : Int) (v11 : Int) (v12 : Bool) (H : Hp) : Option (Sl × Hp) :=
  if v12 = true then
    ((H.apN 2 v5 [.int .i64 v6, .int .i64 v7] 1).bind fun x2 =>
    kt2 v1 v2 v3 v4 x2.1 v6 (w64 (v7 + 1)) v8 v9 v10 v11 x2.2)
  else
    (kt2 v1 v2 v3 v4 v5 v6 (w64 (v7 + 1)) v8 v9 v10 v11 H)
noncomputable def r70_l2 (kt1 : Int → Sl → Int → Int → Sl → Int → Int → Int → Int → Hp → Option (Sl × Hp)) : Nat → Int → Sl → Int → Int → Sl → Int → Int → Int → Int → Int → Int → Hp → Option (Sl × Hp)
  | 0, _, _, _, _, _, _, _, _, _, _, _, _ => none
  | k_ + 1, v1, v2, v3, v4, v5, v6, v7, v8, v9, v10, v11, H => if v7 < (w64 (2 * v1)) then
    (if v7 = v3 then
      (if v6 = v4 then
        (r70_j3 (fun v1_ v2_ v3_ v4_ v5_ v6_ v7_ v8_ v9_ v10_ v11_ H_ => r70_l2 kt1 k_ v1_ v2_ v3_ v4_ v5_ v6_ v7_ v8_ v9_ v10_ v11_ H_) v1 v2 v3 v4 v5 v6 v7 v8 v9 v10 v11 true H)
      else
        (if v7 < v3 then
          (ck (v3 ≠ 0) (
          ck (v3 ≠ 0) (
          r70_j3 (fun v1_ v2_ v3_ v4_ v5_ v6_ v7_ v8_ v9_ v10_ v11_ H_ => r70_l2 kt1 k_ v1_ v2_ v3_ v4_ v5_ v6_ v7_ v8_ v9_ v10_ v11_ H_) v1 v2 v3 v4 v5 v6 v7 v8 v9 v10 v11 (decide ((Int.tmod (w64 (v6 + v7)) v3) = (Int.tmod (w64 (2 * v4)) v3))) H)))
        else
          (r70_j3 (fun v1_ v2_ v3_ v4_ v5_ v6_ v7_ v8_ v9_ v10_ v11_ H_ => r70_l2 kt1 k_ v1_ v2_ v3_ v4_ v5_ v6_ v7_ v8_ v9_ v10_ v11_ H_) v1 v2 v3 v4 v5 v6 v7 v8 v9 v10 v11 false H)))
    else
      (if v7 < v3 then
        (ck (v3 ≠ 0) (
        ck (v3 ≠ 0) (
        r70_j3 (fun v1_ v2_ v3_ v4_ v5_ v6_ v7_ v8_ v9_ v10_ v11_ H_ => r70_l2 kt1 k_ v1_ v2_ v3_ v4_ v5_ v6_ v7_ v8_ v9_ v10_ v11_ H_) v1 v2 v3 v4 v5 v6 v7 v8 v9 v10 v11 (decide ((Int.tmod (w64 (v6 + v7)) v3) = (Int.tmod (w64 (2 * v4)) v3))) H)))
      else
        (r70_j3 (fun v1_ v2_ v3_ v4_ v5_ v6_ v7_ v8_ v9_ v10_ v11_ H_ => r70_l2 kt1 k_ v1_ v2_ v3_ v4_ v5_ v6_ v7_ v8_ v9_ v10_ v11_ H_) v1 v2 v3 v4 v5 v6 v7 v8 v9 v10 v11 false H)))
  else
    (kt1 v1 v2 v3 v4 v5 v8 v9 v10 (w64 (v11 + 1)) H)
noncomputable def r70_l1 (kt0 : Int → Sl → Int → Int → Int → Hp → Option (Sl × Hp)) : Nat → Int → Sl → Int → Int → Sl → Int → Int → Int → Int → Hp → Option (Sl × Hp)
  | 0, _, _, _, _, _, _, _, _, _, _ => none
  | k_ + 1, v1, v2, v3, v4, v5, v6, v7, v8, v9, H => if v9 < v8 then
    (r70_l2 (fun v1_ v2_ v3_ v4_ v5_ v6_ v7_ v8_ v9_ H_ => r70_l1 kt0 k_ v1_ v2_ v3_ v4_ v5_ v6_ v7_ v8_ v9_ H_) FUEL v1 v2 v3 v4 v5 v9 (w64 (v9 + 1)) v6 v7 v8 v9 H)
  else
    ((H.apN 1 v2 [.sl v5] 1).bind fun x2 =>
    kt0 v1 x2.1 v3 v6 (w64 (v7 + 1)) x2.2)
noncomputable def r70_l0 : Nat → Int → Sl → Int → Int → Int → Hp → Option (Sl × Hp)
  | 0, _, _, _, _, _, _ => none
  | k_ + 1, v1, v2, v3, v4, v5, H => if v5 < v4 then
    (r70_l1 (fun v1_ v2_ v3_ v4_ v5_ H_ => r70_l0 k_ v1_ v2_ v3_ v4_ v5_ H_) FUEL v1 v2 v3 v5 ⟨true, 0, 0, 0, 0, 0⟩ v4 v5 (w64 (2 * v1)) 0 H)
  else
    (some (v2, H))
noncomputable def r70 (a0 : Int) (H : Hp) : Option (Sl × Hp) :=
  r70_l0 FUEL a0 ⟨true, 0, 0, 0, 0, 0⟩ (w64 ((w64 (2 * a0)) - 1)) (w64 ((w64 (2 * a0)) - 1)) 0 H
/- 42 slices.Equal[[][2]int,[2]int] -/
def ret42 : Bool → AV := fun r => .bool r
noncomputable def r42_l0 : Nat → Sl → Sl → Int → Int → Hp → Option (Bool × Hp)
  | 0, _, _, _, _, _ => none
  | k_ + 1, v1, v2, v3, v4, H => if v4 < v3 then
    (ck ((0 : Int) ≤ v4 ∧ v4 < (v1.len : Int)) (
    (H.ldI .i64 v1.b (v1.o + (v4 : Int).toNat * 2)).bind fun x3 =>
    (H.ldI .i64 v1.b ((v1.o + (v4 : Int).toNat * 2) + 1)).bind fun x4 =>
    ck ((0 : Int) ≤ v4 ∧ v4 < (v2.len : Int)) (
    (H.ldI .i64 v2.b (v2.o + (v4 : Int).toNat * 2)).bind fun x6 =>
    (H.ldI .i64 v2.b ((v2.o + (v4 : Int).toNat * 2) + 1)).bind fun x7 =>
    if (AV.keqs [.int .i64 x3, .int .i64 x4] [.int .i64 x6, .int .i64 x7]) = true then
      (r42_l0 k_ v1 v2 v3 (w64 (v4 + 1)) H)
    else
      (some (false, H)))))
  else
    (some (true, H))
noncomputable def r42 (a0 : Sl) (a1 : Sl) (H : Hp) : Option (Bool × Hp) :=
  if (a0.len : Int) ≠ (a1.len : Int) then
    (some (false, H))
  else
    (r42_l0 FUEL a0 a1 (a0.len : Int) 0 H)
/- 71 congou/congoulaw08.PairsRounds$1 -/
def ret71 : Bool → AV := fun r => .bool r
noncomputable def r71 (a0 : Sl) (a1 : Sl) (H : Hp) : Option (Bool × Hp) :=
  (r42 a0 a1 H).bind fun p1 =>
  some (p1.1, p1.2)
/- 19 congou/congoulaw08.PairsRounds -/
def ret19 : Bool → AV := fun r => .bool r
noncomputable def r19_j0 (app : App) (v1 : Int) (v2 : Sl) (v3 : Sl) (v4 : Int) (v5 : Bool) (v6 : Int) (v7 : Bool) (H : Hp) : Option (Bool × Hp) :=
  if v7 = true then
    (if (v3.len : Int) = 0 then
      (if v5 = true then
        (some (false, H))
      else
        (if v4 = 2 then
          (if v6 = 2 then
            ((r23 app H).bind fun p6 =>
            some (p6.1, p6.2))
          else
            (some (false, H)))
        else
          (some (false, H))))
    else
      (some (false, H)))
  else
    ((r70 v1 H).bind fun p7 =>
    (r69 app v3 p7.1 (.fn 71 [] []) p7.2).bind fun p8 =>
    if p8.1 = true then
      (if v4 = 0 then
        ((r64 v1 v2 p8.2).bind fun p11 =>
        if (v5 == p11.1) = true then
          (if v6 = 0 then
            ((r23 app p11.2).bind fun p14 =>
            some (p14.1, p14.2))
          else
            (some (false, p11.2)))
        else
          (some (false, p11.2)))
      else
        (some (false, p8.2)))
    else
      (some (false, p8.2)))
noncomputable def r19 (app : App) (a0 : Int) (a1 : Sl) (H : Hp) : Option (Bool × Hp) :=
  (r68 app a0 H).bind fun p1 =>
  (r63 a1 p1.2).bind fun p2 =>
  (r62 app a0 p2.1 p2.2).bind fun p3 =>
  if a0 < 1 then
    (r19_j0 app a0 a1 p1.1.1 p1.1.2 p3.1.1 p3.1.2 true p3.2)
  else
    (r19_j0 app a0 a1 p1.1.1 p1.1.2 p3.1.1 p3.1.2 (decide (4 < a0)) p3.2)
/- 36 slices.Clone[[]int,int] -/
def ret36 : Sl → AV := fun r => .sl r
noncomputable def r36 (a0 : Sl) (H : Hp) : Option (Sl × Hp) :=
  if a0.nil = true then
    (some (⟨true, 0, 0, 0, 0, 0⟩, H))
  else
    (((H.push (.cells [] false)).lds a0.b a0.o (a0.len * 1)).bind fun x2 =>
    ck (x2.all AV.one = true) (
    ((H.push (.cells [] false)).app 1 ⟨false, H.n, 0, 0, 0, 0⟩ x2 a0.len).bind fun x4 =>
    some (x4.1, x4.2)))
/- 74 congou/pairs.First$1 -/
def ret74 : Bool → AV := fun r => .bool r
noncomputable def r74 (a0 : Sl) (c0 : Nat) (H : Hp) : Option (Bool × Hp) :=
  (r36 a0 H).bind fun p1 =>
  (p1.2.st c0 0 (.sl p1.1)).bind fun H2 =>
  some (false, H2)
/- 108 slices.Index[[]int,int] -/
def ret108 : Int → AV := fun r => .int .i64 r
noncomputable def r108_l0 : Nat → Sl → Int → Int → Int → Hp → Option (Int × Hp)
  | 0, _, _, _, _, _ => none
  | k_ + 1, v1, v2, v3, v4, H => if v4 < v3 then
    (ck ((0 : Int) ≤ v4 ∧ v4 < (v1.len : Int)) (
    (H.ldI .i64 v1.b (v1.o + (v4 : Int).toNat * 1)).bind fun x3 =>
    if v2 = x3 then
      (some (v4, H))
    else
      (r108_l0 k_ v1 v2 v3 (w64 (v4 + 1)) H)))
  else
    (some ((-1), H))
noncomputable def r108 (a0 : Sl) (a1 : Int) (H : Hp) : Option (Int × Hp) :=
  r108_l0 FUEL a0 a1 (a0.len : Int) 0 H
/- 107 congou/pairs.rows$1 -/
def ret107 : Bool → AV := fun r => .bool r
noncomputable def r107_j1 (app : App) (kt0 : Int → Nat → Nat → Nat → Nat → Int → Int → Hp → Option (Bool × Hp)) (v1 : Int) (v2 : Nat) (v3 : Nat) (v4 : Nat) (v5 : Nat) (v6 : Int) (v7 : Int) (v8 : Int) (v9 : Bool) (H : Hp) : Option (Bool × Hp) :=
  if v9 = true then
    (kt0 v1 v2 v3 v4 v5 v6 (w64 (v7 + 1)) H)
  else
    ((H.ldSl v2 0).bind fun x2 =>
    (H.ldSl v2 0).bind fun x3 =>
    ck ((0 : Int) ≤ v6 ∧ v6 < (x2.len : Int)) (
    (H.st x2.b (x2.o + (v6 : Int).toNat * 1) (.int .i64 v7)).bind fun H5 =>
    ck ((0 : Int) ≤ v8 ∧ v8 < (x3.len : Int)) (
    (H5.st x3.b (x3.o + (v8 : Int).toNat * 1) (.int .i64 v7)).bind fun H7 =>
    ck (H5.ldSl v2 0 = some x3) (
    ck (H7.ldSl v2 0 = some x3) (
    (H7.ldV v5 0).bind fun x10 =>
    ck (¬ v7 < 0) (
    (callv app x10 [.int .i64 (bitsOf .or .i64 v1 (shlOf .i64 1 v7))] H7).bind fun p12 =>
    (p12.1.asB).bind fun x13 =>
    (p12.2.ldSl v2 0).bind fun x14 =>
    (p12.2.ldSl v2 0).bind fun x15 =>
    ck ((0 : Int) ≤ v6 ∧ v6 < (x14.len : Int)) (
    (p12.2.st x14.b (x14.o + (v6 : Int).toNat * 1) (.int .i64 0)).bind fun H17 =>
    ck ((0 : Int) ≤ v8 ∧ v8 < (x15.len : Int)) (
    (H17.st x15.b (x15.o + (v8 : Int).toNat * 1) (.int .i64 0)).bind fun H19 =>
    ck (H17.ldSl v2 0 = some x15) (
    ck (H19.ldSl v2 0 = some x15) (
    if x13 = true then
      (kt0 v1 v2 v3 v4 v5 v6 (w64 (v7 + 1)) H19)
    else
      (some (false, H19))))))))))))
noncomputable def r107_l0 (app : App) : Nat → Int → Nat → Nat → Nat → Nat → Int → Int → Hp → Option (Bool × Hp)
  | 0, _, _, _, _, _, _, _, _ => none
  | k_ + 1, v1, v2, v3, v4, v5, v6, v7, H => (H.ldI .i64 v3 0).bind fun x1 =>
  if v7 ≤ x1 then
    ((H.ldI .i64 v4 0).bind fun x3 =>
    ck (¬ v7 < 0) (
    if (bitsOf .and .i64 (shrOf .i64 v1 v7) 1) = 1 then
      (r107_j1 app (fun v1_ v2_ v3_ v4_ v5_ v6_ v7_ H_ => r107_l0 app k_ v1_ v2_ v3_ v4_ v5_ v6_ v7_ H_) v1 v2 v3 v4 v5 v6 v7 (w64 ((w64 ((w64 (v6 + v7)) + x3)) - 1)) true H)
    else
      ((H.ldSl v2 0).bind fun x6 =>
      if (x6.len : Int) ≤ (w64 ((w64 ((w64 (v6 + v7)) + x3)) - 1)) then
        (r107_j1 app (fun v1_ v2_ v3_ v4_ v5_ v6_ v7_ H_ => r107_l0 app k_ v1_ v2_ v3_ v4_ v5_ v6_ v7_ H_) v1 v2 v3 v4 v5 v6 v7 (w64 ((w64 ((w64 (v6 + v7)) + x3)) - 1)) true H)
      else
        ((H.ldSl v2 0).bind fun x8 =>
        ck ((0 : Int) ≤ (w64 ((w64 ((w64 (v6 + v7)) + x3)) - 1)) ∧ (w64 ((w64 ((w64 (v6 + v7)) + x3)) - 1)) < (x8.len : Int)) (
        (H.ldI .i64 x8.b (x8.o + (w64 ((w64 ((w64 (v6 + v7)) + x3)) - 1) : Int).toNat * 1)).bind fun x10 =>
        r107_j1 app (fun v1_ v2_ v3_ v4_ v5_ v6_ v7_ H_ => r107_l0 app k_ v1_ v2_ v3_ v4_ v5_ v6_ v7_ H_) v1 v2 v3 v4 v5 v6 v7 (w64 ((w64 ((w64 (v6 + v7)) + x3)) - 1)) (decide (x10 ≠ 0)) H)))))
  else
    (some (true, H))
noncomputable def r107 (app : App) (a0 : Int) (c0 : Nat) (c1 : Nat) (c2 : Nat) (c3 : Nat) (c4 : Nat) (H : Hp) : Option (Bool × Hp) :=
  (H.ldSl c0 0).bind fun x1 =>
  (r108 x1 0 H).bind fun p2 =>
  if p2.1 < 0 then
    ((p2.2.ldV c1 0).bind fun x4 =>
    (p2.2.ldSl c0 0).bind fun x5 =>
    (callv app x4 [.sl x5] p2.2).bind fun p6 =>
    (p6.1.asB).bind fun x7 =>
    some (x7, p6.2))
  else
    (r107_l0 app FUEL a0 c0 c2 c3 c4 p2.1 1 p2.2)
end Go.Lt.P8
