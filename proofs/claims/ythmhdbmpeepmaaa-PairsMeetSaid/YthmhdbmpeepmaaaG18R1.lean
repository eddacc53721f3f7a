/- PRINTED BY A PROGRAM OF OURS: what each function that 'PairsMeet' reaches computes on the abstract heap, and that the translated code does just that. Nothing is asked of the input. -/
import Derived.Test.YthmhdbmpeepmaaaG18R0
set_option linter.unusedVariables false
set_option linter.unusedSimpArgs false
set_option maxRecDepth 100000
set_option maxHeartbeats 4000000
namespace Go.Lt.P8
open Go Go.Lt Go.Proofs
/- 68 congou/pairs.Rounds -/
def ret68 : Sl × Int → AV := fun r => .tup [.sl r.1, .int .i64 r.2]
noncomputable def r68_l2 (app : App) (kt1 : Int → Sl → Int → Sl → Int → Int → Int → Int → Hp → Option ((Sl × Int) × Hp)) : Nat → Int → Sl → Int → Sl → Int → Int → Int → Int → Int → Int → Hp → Option ((Sl × Int) × Hp)
  | 0, _, _, _, _, _, _, _, _, _, _, _ => none
  | k_ + 1, v1, v2, v3, v4, v5, v6, v7, v8, v9, v10, H => if v6 < v1 then
    (ck (v1 ≠ 0) (
    if (Int.tmod (w64 ((w64 (v5 + v6)) - (w64 (2 * v3)))) v1) = 0 then
      ((H.apN 2 v4 [.int .i64 v5, .int .i64 v6] 1).bind fun x4 =>
      r68_l2 app kt1 k_ v1 v2 v3 x4.1 v5 (w64 (v6 + 1)) v7 v8 v9 v10 x4.2)
    else
      (r68_l2 app kt1 k_ v1 v2 v3 v4 v5 (w64 (v6 + 1)) v7 v8 v9 v10 H)))
  else
    (kt1 v1 v2 v3 v4 v7 v8 v9 (w64 (v10 + 1)) H)
noncomputable def r68_l1 (app : App) (kt0 : Int → Sl → Int → Int → Hp → Option ((Sl × Int) × Hp)) : Nat → Int → Sl → Int → Sl → Int → Int → Int → Int → Hp → Option ((Sl × Int) × Hp)
  | 0, _, _, _, _, _, _, _, _, _ => none
  | k_ + 1, v1, v2, v3, v4, v5, v6, v7, v8, H => if v8 < v7 then
    (r68_l2 app (fun v1_ v2_ v3_ v4_ v5_ v6_ v7_ v8_ H_ => r68_l1 app kt0 k_ v1_ v2_ v3_ v4_ v5_ v6_ v7_ v8_ H_) FUEL v1 v2 v3 v4 v8 (w64 (v8 + 1)) v5 v6 v7 v8 H)
  else
    ((r106 app v4 (.fn 102 [] []) H).bind fun p2 =>
    (p2.2.apN 1 v2 [.sl p2.1] 1).bind fun x3 =>
    kt0 v1 x3.1 v5 (w64 (v6 + 1)) x3.2)
noncomputable def r68_l0 (app : App) : Nat → Int → Sl → Int → Int → Hp → Option ((Sl × Int) × Hp)
  | 0, _, _, _, _, _ => none
  | k_ + 1, v1, v2, v3, v4, H => if v4 < v3 then
    (lt (H.push (.cells [.int .i64 v4, .int .i64 v1] false)) fun H2 =>
    r68_l1 app (fun v1_ v2_ v3_ v4_ H_ => r68_l0 app k_ v1_ v2_ v3_ v4_ H_) FUEL v1 v2 v4 ⟨false, H.n, 0, 1, 1, 0⟩ v3 v4 v1 0 H2)
  else
    (some ((v2, 0), H))
noncomputable def r68 (app : App) (a0 : Int) (H : Hp) : Option ((Sl × Int) × Hp) :=
  (r100 a0 H).bind fun p1 =>
  if p1.1 = true then
    (r68_l0 app FUEL (w64 ((w64 (2 * a0)) - 1)) ⟨true, 0, 0, 0, 0, 0⟩ (w64 ((w64 (2 * a0)) - 1)) 0 p1.2)
  else
    (some ((⟨true, 0, 0, 0, 0, 0⟩, 2), p1.2))
/- 18 congou/congoulaw08.PairsMeet -/
def ret18 : Bool → AV := fun r => .bool r
noncomputable def r18_j4 (app : App) (kt2 : Int → Int → Int → Sl → Nat → Sl → Int → Int → Sl → Int → Int → Hp → Option (Bool × Hp)) (v1 : Int) (v2 : Int) (v3 : Int) (v4 : Sl) (v5 : Nat) (v6 : Nat) (v7 : Sl) (v8 : Int) (v9 : Int) (v10 : Sl) (v11 : Int) (v12 : Int) (v13 : Bool) (H : Hp) : Option (Bool × Hp) :=
  if v13 = true then
    (some (false, H))
  else
    ((H.ldI .i64 v6 (0 + (0 : Int).toNat * 1)).bind fun x2 =>
    (H.ldI .i64 v6 (0 + (1 : Int).toNat * 1)).bind fun x3 =>
    ck ((0 : Int) ≤ x2 ∧ x2 < ((8 : Nat) : Int)) (
    ck ((0 : Int) ≤ x3 ∧ x3 < ((8 : Nat) : Int)) (
    (H.ldI .i64 v5 ((0 + (x2 : Int).toNat * 8) + (x3 : Int).toNat * 1)).bind fun x6 =>
    ck ((0 : Int) ≤ x2 ∧ x2 < ((8 : Nat) : Int)) (
    ck ((0 : Int) ≤ x3 ∧ x3 < ((8 : Nat) : Int)) (
    (H.st v5 ((0 + (x2 : Int).toNat * 8) + (x3 : Int).toNat * 1) (.int .i64 (w64 (x6 + 1)))).bind fun H9 =>
    kt2 v1 v2 v3 v4 v5 v7 v8 v9 v10 v11 (w64 (v12 + 1)) H9)))))
noncomputable def r18_l2 (app : App) (kt1 : Int → Int → Int → Sl → Nat → Sl → Int → Int → Hp → Option (Bool × Hp)) : Nat → Int → Int → Int → Sl → Nat → Sl → Int → Int → Sl → Int → Int → Hp → Option (Bool × Hp)
  | 0, _, _, _, _, _, _, _, _, _, _, _, _ => none
  | k_ + 1, v1, v2, v3, v4, v5, v6, v7, v8, v9, v10, v11, H => if v11 < v10 then
    (ck ((0 : Int) ≤ v11 ∧ v11 < (v9.len : Int)) (
    (H.ldI .i64 v9.b (v9.o + (v11 : Int).toNat * 2)).bind fun x3 =>
    (H.ldI .i64 v9.b ((v9.o + (v11 : Int).toNat * 2) + 1)).bind fun x4 =>
    ((H.push (.cells [.int .i64 0, .int .i64 0] false)).sts H.n 0 [.int .i64 x3, .int .i64 x4]).bind fun H5 =>
    (H5.ldI .i64 H.n (0 + (0 : Int).toNat * 1)).bind fun x6 =>
    if x6 < 0 then
      (r18_j4 app (fun v1_ v2_ v3_ v4_ v5_ v6_ v7_ v8_ v9_ v10_ v11_ H_ => r18_l2 app kt1 k_ v1_ v2_ v3_ v4_ v5_ v6_ v7_ v8_ v9_ v10_ v11_ H_) v1 v2 v3 v4 v5 H.n v6 v7 v8 v9 v10 v11 true H5)
    else
      ((H5.ldI .i64 H.n (0 + (0 : Int).toNat * 1)).bind fun x8 =>
      (H5.ldI .i64 H.n (0 + (1 : Int).toNat * 1)).bind fun x9 =>
      if x9 ≤ x8 then
        (r18_j4 app (fun v1_ v2_ v3_ v4_ v5_ v6_ v7_ v8_ v9_ v10_ v11_ H_ => r18_l2 app kt1 k_ v1_ v2_ v3_ v4_ v5_ v6_ v7_ v8_ v9_ v10_ v11_ H_) v1 v2 v3 v4 v5 H.n v6 v7 v8 v9 v10 v11 true H5)
      else
        ((H5.ldI .i64 H.n (0 + (1 : Int).toNat * 1)).bind fun x11 =>
        r18_j4 app (fun v1_ v2_ v3_ v4_ v5_ v6_ v7_ v8_ v9_ v10_ v11_ H_ => r18_l2 app kt1 k_ v1_ v2_ v3_ v4_ v5_ v6_ v7_ v8_ v9_ v10_ v11_ H_) v1 v2 v3 v4 v5 H.n v6 v7 v8 v9 v10 v11 (decide ((w64 (2 * v1)) ≤ x11)) H5))))
  else
    (kt1 v1 v2 v3 v4 v5 v6 v7 (w64 (v8 + 1)) H)
noncomputable def r18_l5 (app : App) (kt3 : Int → Int → Int → Sl → Nat → Int → Int → Hp → Option (Bool × Hp)) : Nat → Int → Int → Int → Sl → Nat → Int → Int → Int → Int → Hp → Option (Bool × Hp)
  | 0, _, _, _, _, _, _, _, _, _, _ => none
  | k_ + 1, v1, v2, v3, v4, v5, v6, v7, v8, v9, H => if v7 < (w64 (2 * v1)) then
    (ck ((0 : Int) ≤ v6 ∧ v6 < ((8 : Nat) : Int)) (
    ck ((0 : Int) ≤ v7 ∧ v7 < ((8 : Nat) : Int)) (
    (H.ldI .i64 v5 ((0 + (v6 : Int).toNat * 8) + (v7 : Int).toNat * 1)).bind fun x4 =>
    if x4 ≠ 1 then
      (some (false, H))
    else
      (r18_l5 app kt3 k_ v1 v2 v3 v4 v5 v6 (w64 (v7 + 1)) v8 v9 H))))
  else
    (kt3 v1 v2 v3 v4 v5 v8 (w64 (v9 + 1)) H)
noncomputable def r18_l3 (app : App) : Nat → Int → Int → Int → Sl → Nat → Int → Int → Hp → Option (Bool × Hp)
  | 0, _, _, _, _, _, _, _, _ => none
  | k_ + 1, v1, v2, v3, v4, v5, v6, v7, H => if v7 < v6 then
    (r18_l5 app (fun v1_ v2_ v3_ v4_ v5_ v6_ v7_ H_ => r18_l3 app k_ v1_ v2_ v3_ v4_ v5_ v6_ v7_ H_) FUEL v1 v2 v3 v4 v5 v7 (w64 (v7 + 1)) v6 v7 H)
  else
    ((r63 v4 H).bind fun p2 =>
    ck ((IntKind.wrap .u64 ((v4.len : Int))) ≠ 0) (
    ck ((IntKind.wrap .u64 ((v4.len : Int))) ≠ 0) (
    ck ((0 : Int) ≤ (Int.tmod (IntKind.wrap .u64 (v2)) (IntKind.wrap .u64 ((v4.len : Int)))) ∧ (Int.tmod (IntKind.wrap .u64 (v2)) (IntKind.wrap .u64 ((v4.len : Int)))) < (p2.1.len : Int)) (
    (p2.2.ldSl p2.1.b (p2.1.o + (Int.tmod (IntKind.wrap .u64 (v2)) (IntKind.wrap .u64 ((v4.len : Int))) : Int).toNat * 1)).bind fun x6 =>
    ck ((0 : Int) ≤ (Int.tmod (IntKind.wrap .u64 (v3)) (IntKind.wrap .u64 ((v4.len : Int)))) ∧ (Int.tmod (IntKind.wrap .u64 (v3)) (IntKind.wrap .u64 ((v4.len : Int)))) < (p2.1.len : Int)) (
    (p2.2.ldSl p2.1.b (p2.1.o + (Int.tmod (IntKind.wrap .u64 (v3)) (IntKind.wrap .u64 ((v4.len : Int))) : Int).toNat * 1)).bind fun x8 =>
    ck ((0 : Int) ≤ (Int.tmod (IntKind.wrap .u64 (v2)) (IntKind.wrap .u64 ((v4.len : Int)))) ∧ (Int.tmod (IntKind.wrap .u64 (v2)) (IntKind.wrap .u64 ((v4.len : Int)))) < (p2.1.len : Int)) (
    (p2.2.st p2.1.b (p2.1.o + (Int.tmod (IntKind.wrap .u64 (v2)) (IntKind.wrap .u64 ((v4.len : Int))) : Int).toNat * 1) (.sl x8)).bind fun H10 =>
    ck ((0 : Int) ≤ (Int.tmod (IntKind.wrap .u64 (v3)) (IntKind.wrap .u64 ((v4.len : Int)))) ∧ (Int.tmod (IntKind.wrap .u64 (v3)) (IntKind.wrap .u64 ((v4.len : Int)))) < (p2.1.len : Int)) (
    (H10.st p2.1.b (p2.1.o + (Int.tmod (IntKind.wrap .u64 (v3)) (IntKind.wrap .u64 ((v4.len : Int))) : Int).toNat * 1) (.sl x6)).bind fun H12 =>
    (r63 p2.1 H12).bind fun p13 =>
    (r62 app v1 p13.1 p13.2).bind fun p14 =>
    ck (((0 : Int) ≤ 1 ∧ 1 ≤ (p2.1.len : Int) ∧ (p2.1.len : Int) ≤ (p2.1.cap : Int)) ∧ (p2.1.opn = 0 ∨ p2.1.opn = 1)) (
    (r63 (p2.1.cut 1 (1 : Int).toNat ((p2.1.len : Int) : Int).toNat) p14.2).bind fun p16 =>
    (r62 app v1 p16.1 p16.2).bind fun p17 =>
    if p14.1.1 = true then
      (if p17.1.1 = true then
        (some (false, p17.2))
      else
        (if p14.1.2 = 0 then
          (if p17.1.2 = 0 then
            ((r23 app p17.2).bind fun p22 =>
            some (p22.1, p22.2))
          else
            (some (false, p17.2)))
        else
          (some (false, p17.2))))
    else
      (some (false, p17.2))))))))))
noncomputable def r18_l1 (app : App) : Nat → Int → Int → Int → Sl → Nat → Sl → Int → Int → Hp → Option (Bool × Hp)
  | 0, _, _, _, _, _, _, _, _, _ => none
  | k_ + 1, v1, v2, v3, v4, v5, v6, v7, v8, H => if v8 < v7 then
    (ck ((0 : Int) ≤ v8 ∧ v8 < (v6.len : Int)) (
    (H.ldSl v6.b (v6.o + (v8 : Int).toNat * 1)).bind fun x3 =>
    r18_l2 app (fun v1_ v2_ v3_ v4_ v5_ v6_ v7_ v8_ H_ => r18_l1 app k_ v1_ v2_ v3_ v4_ v5_ v6_ v7_ v8_ H_) FUEL v1 v2 v3 v4 v5 v6 v7 v8 x3 (x3.len : Int) 0 H))
  else
    (r18_l3 app FUEL v1 v2 v3 v4 v5 (w64 (2 * v1)) 0 H)
noncomputable def r18_j0 (app : App) (v1 : Int) (v2 : Int) (v3 : Int) (v4 : Sl) (v5 : Bool) (H : Hp) : Option (Bool × Hp) :=
  if v5 = true then
    (some (false, H))
  else
    (lt (H.push (.cells [.int .i64 0, .int .i64 0, .int .i64 0, .int .i64 0, .int .i64 0, .int .i64 0, .int .i64 0, .int .i64 0, .int .i64 0, .int .i64 0, .int .i64 0, .int .i64 0, .int .i64 0, .int .i64 0, .int .i64 0, .int .i64 0, .int .i64 0, .int .i64 0, .int .i64 0, .int .i64 0, .int .i64 0, .int .i64 0, .int .i64 0, .int .i64 0, .int .i64 0, .int .i64 0, .int .i64 0, .int .i64 0, .int .i64 0, .int .i64 0, .int .i64 0, .int .i64 0, .int .i64 0, .int .i64 0, .int .i64 0, .int .i64 0, .int .i64 0, .int .i64 0, .int .i64 0, .int .i64 0, .int .i64 0, .int .i64 0, .int .i64 0, .int .i64 0, .int .i64 0, .int .i64 0, .int .i64 0, .int .i64 0, .int .i64 0, .int .i64 0, .int .i64 0, .int .i64 0, .int .i64 0, .int .i64 0, .int .i64 0, .int .i64 0, .int .i64 0, .int .i64 0, .int .i64 0, .int .i64 0, .int .i64 0, .int .i64 0, .int .i64 0, .int .i64 0] false)) fun H2 =>
    r18_l1 app FUEL v1 v2 v3 v4 H.n v4 (v4.len : Int) 0 H2)
noncomputable def r18 (app : App) (a0 : Int) (a1 : Int) (a2 : Int) (H : Hp) : Option (Bool × Hp) :=
  (r68 app (w64 (1 + (w64 (Int.tmod (IntKind.wrap .u64 (a0)) 4)))) H).bind fun p1 =>
  (r63 p1.1.1 p1.2).bind fun p2 =>
  (r62 app (w64 (1 + (w64 (Int.tmod (IntKind.wrap .u64 (a0)) 4)))) p2.1 p2.2).bind fun p3 =>
  if p1.1.2 ≠ 0 then
    (r18_j0 app (w64 (1 + (w64 (Int.tmod (IntKind.wrap .u64 (a0)) 4)))) a1 a2 p1.1.1 true p3.2)
  else
    (if p3.1.2 ≠ 0 then
      (r18_j0 app (w64 (1 + (w64 (Int.tmod (IntKind.wrap .u64 (a0)) 4)))) a1 a2 p1.1.1 true p3.2)
    else
      (if p3.1.1 = true then
        (r18_j0 app (w64 (1 + (w64 (Int.tmod (IntKind.wrap .u64 (a0)) 4)))) a1 a2 p1.1.1 (decide ((p1.1.1.len : Int) ≠ (w64 ((w64 (2 * (w64 (1 + (w64 (Int.tmod (IntKind.wrap .u64 (a0)) 4)))))) - 1)))) p3.2)
      else
        (r18_j0 app (w64 (1 + (w64 (Int.tmod (IntKind.wrap .u64 (a0)) 4)))) a1 a2 p1.1.1 true p3.2)))
/- 36 slices.Clone[[]int,int] -/
def ret36 : Sl → AV := fun r => .sl r
noncomputable def r36 (a0 : Sl) (H : Hp) : Option (Sl × Hp) :=
  if a0.nil = true then
    (some (⟨true, 0, 0, 0, 0, 0⟩, H))
  else
    (((H.push (.cells [] false)).lds a0.b a0.o (a0.len * 1)).bind fun x2 =>
    ck (x2.all AV.one = true) (
    ((H.push (.cells [] false)).app 1 ⟨false, H.n, 0, 0, 0, 0⟩ x2 a0.len).bind fun x4 =>
    some (x4.1, x4.2)))
/- 74 congou/pairs.First$1 -/
def ret74 : Bool → AV := fun r => .bool r
noncomputable def r74 (a0 : Sl) (c0 : Nat) (H : Hp) : Option (Bool × Hp) :=
  (r36 a0 H).bind fun p1 =>
  (p1.2.st c0 0 (.sl p1.1)).bind fun H2 =>
  some (false, H2)
/- 108 slices.Index[[]int,int] -/
def ret108 : Int → AV := fun r => .int .i64 r
noncomputable def r108_l0 : Nat → Sl → Int → Int → Int → Hp → Option (Int × Hp)
  | 0, _, _, _, _, _ => none
  | k_ + 1, v1, v2, v3, v4, H => if v4 < v3 then
    (ck ((0 : Int) ≤ v4 ∧ v4 < (v1.len : Int)) (
    (H.ldI .i64 v1.b (v1.o + (v4 : Int).toNat * 1)).bind fun x3 =>
    if v2 = x3 then
      (some (v4, H))
    else
      (r108_l0 k_ v1 v2 v3 (w64 (v4 + 1)) H)))
  else
    (some ((-1), H))
noncomputable def r108 (a0 : Sl) (a1 : Int) (H : Hp) : Option (Int × Hp) :=
  r108_l0 FUEL a0 a1 (a0.len : Int) 0 H
/- 107 congou/pairs.rows$1 -/
def ret107 : Bool → AV := fun r => .bool r
noncomputable def r107_j1 (app : App) (kt0 : Int → Nat → Nat → Nat → Nat → Int → Int → Hp → Option (Bool × Hp)) (v1 : Int) (v2 : Nat) (v3 : Nat) (v4 : Nat) (v5 : Nat) (v6 : Int) (v7 : Int) (v8 : Int) (v9 : Bool) (H : Hp) : Option (Bool × Hp) :=
  if v9 = true then
    (kt0 v1 v2 v3 v4 v5 v6 (w64 (v7 + 1)) H)
  else
    ((H.ldSl v2 0).bind fun x2 =>
    (H.ldSl v2 0).bind fun x3 =>
    ck ((0 : Int) ≤ v6 ∧ v6 < (x2.len : Int)) (
    (H.st x2.b (x2.o + (v6 : Int).toNat * 1) (.int .i64 v7)).bind fun H5 =>
    ck ((0 : Int) ≤ v8 ∧ v8 < (x3.len : Int)) (
    (H5.st x3.b (x3.o + (v8 : Int).toNat * 1) (.int .i64 v7)).bind fun H7 =>
    ck (H5.ldSl v2 0 = some x3) (
    ck (H7.ldSl v2 0 = some x3) (
    (H7.ldV v5 0).bind fun x10 =>
    ck (¬ v7 < 0) (
    (callv app x10 [.int .i64 (bitsOf .or .i64 v1 (shlOf .i64 1 v7))] H7).bind fun p12 =>
    (p12.1.asB).bind fun x13 =>
    (p12.2.ldSl v2 0).bind fun x14 =>
    (p12.2.ldSl v2 0).bind fun x15 =>
    ck ((0 : Int) ≤ v6 ∧ v6 < (x14.len : Int)) (
    (p12.2.st x14.b (x14.o + (v6 : Int).toNat * 1) (.int .i64 0)).bind fun H17 =>
    ck ((0 : Int) ≤ v8 ∧ v8 < (x15.len : Int)) (
    (H17.st x15.b (x15.o + (v8 : Int).toNat * 1) (.int .i64 0)).bind fun H19 =>
    ck (H17.ldSl v2 0 = some x15) (
    ck (H19.ldSl v2 0 = some x15) (
    if x13 = true then
      (kt0 v1 v2 v3 v4 v5 v6 (w64 (v7 + 1)) H19)
    else
      (some (false, H19))))))))))))
noncomputable def r107_l0 (app : App) : Nat → Int → Nat → Nat → Nat → Nat → Int → Int → Hp → Option (Bool × Hp)
  | 0, _, _, _, _, _, _, _, _ => none
  | k_ + 1, v1, v2, v3, v4, v5, v6, v7, H => (H.ldI .i64 v3 0).bind fun x1 =>
  if v7 ≤ x1 then
    ((H.ldI .i64 v4 0).bind fun x3 =>
    ck (¬ v7 < 0) (
    if (bitsOf .and .i64 (shrOf .i64 v1 v7) 1) = 1 then
      (r107_j1 app (fun v1_ v2_ v3_ v4_ v5_ v6_ v7_ H_ => r107_l0 app k_ v1_ v2_ v3_ v4_ v5_ v6_ v7_ H_) v1 v2 v3 v4 v5 v6 v7 (w64 ((w64 ((w64 (v6 + v7)) + x3)) - 1)) true H)
    else
      ((H.ldSl v2 0).bind fun x6 =>
      if (x6.len : Int) ≤ (w64 ((w64 ((w64 (v6 + v7)) + x3)) - 1)) then
        (r107_j1 app (fun v1_ v2_ v3_ v4_ v5_ v6_ v7_ H_ => r107_l0 app k_ v1_ v2_ v3_ v4_ v5_ v6_ v7_ H_) v1 v2 v3 v4 v5 v6 v7 (w64 ((w64 ((w64 (v6 + v7)) + x3)) - 1)) true H)
      else
        ((H.ldSl v2 0).bind fun x8 =>
        ck ((0 : Int) ≤ (w64 ((w64 ((w64 (v6 + v7)) + x3)) - 1)) ∧ (w64 ((w64 ((w64 (v6 + v7)) + x3)) - 1)) < (x8.len : Int)) (
        (H.ldI .i64 x8.b (x8.o + (w64 ((w64 ((w64 (v6 + v7)) + x3)) - 1) : Int).toNat * 1)).bind fun x10 =>
        r107_j1 app (fun v1_ v2_ v3_ v4_ v5_ v6_ v7_ H_ => r107_l0 app k_ v1_ v2_ v3_ v4_ v5_ v6_ v7_ H_) v1 v2 v3 v4 v5 v6 v7 (w64 ((w64 ((w64 (v6 + v7)) + x3)) - 1)) (decide (x10 ≠ 0)) H)))))
  else
    (some (true, H))
noncomputable def r107 (app : App) (a0 : Int) (c0 : Nat) (c1 : Nat) (c2 : Nat) (c3 : Nat) (c4 : Nat) (H : Hp) : Option (Bool × Hp) :=
  (H.ldSl c0 0).bind fun x1 =>
  (r108 x1 0 H).bind fun p2 =>
  if p2.1 < 0 then
    ((p2.2.ldV c1 0).bind fun x4 =>
    (p2.2.ldSl c0 0).bind fun x5 =>
    (callv app x4 [.sl x5] p2.2).bind fun p6 =>
    (p6.1.asB).bind fun x7 =>
    some (x7, p6.2))
  else
    (r107_l0 app FUEL a0 c0 c2 c3 c4 p2.1 1 p2.2)
end Go.Lt.P8
