/- PRINTED BY A PROGRAM OF OURS: what each function that 'CutsLess' reaches computes on the abstract heap, and that the translated code does just that. Nothing is asked of the input. -/
import Derived.Test.YteefkljbmjjncaaG15T
set_option linter.unusedVariables false
set_option linter.unusedSimpArgs false
set_option maxRecDepth 100000
set_option maxHeartbeats 4000000
namespace Go.Lt.P2
open Go Go.Lt Go.Proofs
/- 18 congou/congoulaw02.Of -/
def ret18 : Sl → AV := fun r => .sl r
noncomputable def r18_l0 : Nat → Sl → Sl → Int → Int → Hp → Option (Sl × Hp)
  | 0, _, _, _, _, _ => none
  | k_ + 1, v1, v2, v3, v4, H => if v4 < v3 then
    (ck ((0 : Int) ≤ v4 ∧ v4 < (v2.len : Int)) (
    (H.ldI .i64 v2.b (v2.o + (v4 : Int).toNat * 3)).bind fun x3 =>
    (H.ldI .i64 v2.b ((v2.o + (v4 : Int).toNat * 3) + 1)).bind fun x4 =>
    (H.ldI .i64 v2.b ((v2.o + (v4 : Int).toNat * 3) + 2)).bind fun x5 =>
    ((H.push (.cells [.int .i64 0, .int .i64 0, .int .i64 0] false)).sts H.n 0 [.int .i64 x3, .int .i64 x4, .int .i64 x5]).bind fun H6 =>
    if v4 < 9 then
      ((H6.ldI .i64 H.n (0 + 0)).bind fun x8 =>
      (H6.ldI .i64 H.n (0 + 1)).bind fun x9 =>
      (H6.ldI .i64 H.n (0 + 2)).bind fun x10 =>
      (H6.apN 3 v1 [.int .i64 x8, .int .i64 x9, .int .i64 x10] 1).bind fun x11 =>
      r18_l0 k_ x11.1 v2 v3 (w64 (v4 + 1)) x11.2)
    else
      (r18_l0 k_ v1 v2 v3 (w64 (v4 + 1)) H6)))
  else
    (some (v1, H))
noncomputable def r18 (a0 : Sl) (H : Hp) : Option (Sl × Hp) :=
  r18_l0 FUEL ⟨true, 0, 0, 0, 0, 0⟩ a0 (a0.len : Int) 0 H
/- 19 congou/congouref02.Plate -/
def ret19 : Bool → AV := fun r => .bool r
noncomputable def r19_j2 (kt1 : Sl → Sl → Int → Int → Hp → Option (Bool × Hp)) (v1 : Sl) (v2 : Sl) (v3 : Int) (v4 : Int) (v5 : Bool) (H : Hp) : Option (Bool × Hp) :=
  if v5 = true then
    (some (false, H))
  else
    (kt1 v1 v2 v3 (w64 (v4 + 1)) H)
noncomputable def r19_l5 (kt4 : Sl → Nat → Int → Sl → Int → Int → Hp → Option (Bool × Hp)) : Nat → Sl → Nat → Int → Bool → Sl → Int → Int → Sl → Int → Int → Hp → Option (Bool × Hp)
  | 0, _, _, _, _, _, _, _, _, _, _, _ => none
  | k_ + 1, v1, v2, v3, v4, v5, v6, v7, v8, v9, v10, H => if v10 < v9 then
    (ck ((0 : Int) ≤ v10 ∧ v10 < (v8.len : Int)) (
    (H.ldI .i64 v8.b (v8.o + (v10 : Int).toNat * 3)).bind fun x3 =>
    (H.ldI .i64 v8.b ((v8.o + (v10 : Int).toNat * 3) + 1)).bind fun x4 =>
    (H.ldI .i64 v8.b ((v8.o + (v10 : Int).toNat * 3) + 2)).bind fun x5 =>
    ((H.push (.cells [.int .i64 0, .int .i64 0, .int .i64 0] false)).sts H.n 0 [.int .i64 x3, .int .i64 x4, .int .i64 x5]).bind fun H6 =>
    if v4 = true then
      ((H6.ldI .i64 H.n (0 + 1)).bind fun x8 =>
      (H6.ldI .i64 v2 (0 + 0)).bind fun x9 =>
      (H6.ldI .i64 H.n (0 + 0)).bind fun x10 =>
      (H6.ldI .i64 v2 (0 + 1)).bind fun x11 =>
      r19_l5 kt4 k_ v1 v2 v3 (decide ((w64 (v3 * (w64 ((w64 (x8 * x9)) - (w64 (x10 * x11)))))) ≤ 0)) v5 v6 v7 v8 v9 (w64 (v10 + 1)) H6)
    else
      (r19_l5 kt4 k_ v1 v2 v3 false v5 v6 v7 v8 v9 (w64 (v10 + 1)) H6)))
  else
    (if v4 = true then
      (some (false, H))
    else
      (kt4 v1 v2 (w64 (v3 + 2)) v5 v6 v7 H))
noncomputable def r19_l4 (kt3 : Sl → Sl → Int → Int → Hp → Option (Bool × Hp)) : Nat → Sl → Nat → Int → Sl → Int → Int → Hp → Option (Bool × Hp)
  | 0, _, _, _, _, _, _, _ => none
  | k_ + 1, v1, v2, v3, v4, v5, v6, H => if v3 ≤ 1 then
    (r19_l5 (fun v1_ v2_ v3_ v4_ v5_ v6_ H_ => r19_l4 kt3 k_ v1_ v2_ v3_ v4_ v5_ v6_ H_) FUEL v1 v2 v3 true v4 v5 v6 v1 (v1.len : Int) 0 H)
  else
    (kt3 v1 v4 v5 (w64 (v6 + 1)) H)
noncomputable def r19_l3 : Nat → Sl → Sl → Int → Int → Hp → Option (Bool × Hp)
  | 0, _, _, _, _, _ => none
  | k_ + 1, v1, v2, v3, v4, H => if v4 < v3 then
    (ck ((0 : Int) ≤ v4 ∧ v4 < (v2.len : Int)) (
    (H.ldI .i64 v2.b (v2.o + (v4 : Int).toNat * 3)).bind fun x3 =>
    (H.ldI .i64 v2.b ((v2.o + (v4 : Int).toNat * 3) + 1)).bind fun x4 =>
    (H.ldI .i64 v2.b ((v2.o + (v4 : Int).toNat * 3) + 2)).bind fun x5 =>
    ((H.push (.cells [.int .i64 0, .int .i64 0, .int .i64 0] false)).sts H.n 0 [.int .i64 x3, .int .i64 x4, .int .i64 x5]).bind fun H6 =>
    r19_l4 (fun v1_ v2_ v3_ v4_ H_ => r19_l3 k_ v1_ v2_ v3_ v4_ H_) FUEL v1 H.n (-1) v2 v3 v4 H6))
  else
    (some (true, H))
noncomputable def r19_l1 : Nat → Sl → Sl → Int → Int → Hp → Option (Bool × Hp)
  | 0, _, _, _, _, _ => none
  | k_ + 1, v1, v2, v3, v4, H => if v4 < v3 then
    (ck ((0 : Int) ≤ v4 ∧ v4 < (v2.len : Int)) (
    (H.ldI .i64 v2.b (v2.o + (v4 : Int).toNat * 3)).bind fun x3 =>
    (H.ldI .i64 v2.b ((v2.o + (v4 : Int).toNat * 3) + 1)).bind fun x4 =>
    (H.ldI .i64 v2.b ((v2.o + (v4 : Int).toNat * 3) + 2)).bind fun x5 =>
    ((H.push (.cells [.int .i64 0, .int .i64 0, .int .i64 0] false)).sts H.n 0 [.int .i64 x3, .int .i64 x4, .int .i64 x5]).bind fun H6 =>
    (H6.ldI .i64 H.n (0 + 0)).bind fun x7 =>
    if x7 < (-4) then
      (r19_j2 (fun v1_ v2_ v3_ v4_ H_ => r19_l1 k_ v1_ v2_ v3_ v4_ H_) v1 v2 v3 v4 true H6)
    else
      ((H6.ldI .i64 H.n (0 + 0)).bind fun x9 =>
      if 4 < x9 then
        (r19_j2 (fun v1_ v2_ v3_ v4_ H_ => r19_l1 k_ v1_ v2_ v3_ v4_ H_) v1 v2 v3 v4 true H6)
      else
        ((H6.ldI .i64 H.n (0 + 1)).bind fun x11 =>
        if x11 < (-4) then
          (r19_j2 (fun v1_ v2_ v3_ v4_ H_ => r19_l1 k_ v1_ v2_ v3_ v4_ H_) v1 v2 v3 v4 true H6)
        else
          ((H6.ldI .i64 H.n (0 + 1)).bind fun x13 =>
          if 4 < x13 then
            (r19_j2 (fun v1_ v2_ v3_ v4_ H_ => r19_l1 k_ v1_ v2_ v3_ v4_ H_) v1 v2 v3 v4 true H6)
          else
            ((H6.ldI .i64 H.n (0 + 0)).bind fun x15 =>
            if x15 = 0 then
              ((H6.ldI .i64 H.n (0 + 1)).bind fun x17 =>
              if x17 = 0 then
                (r19_j2 (fun v1_ v2_ v3_ v4_ H_ => r19_l1 k_ v1_ v2_ v3_ v4_ H_) v1 v2 v3 v4 true H6)
              else
                ((H6.ldI .i64 H.n (0 + 2)).bind fun x19 =>
                if x19 < (-40) then
                  (r19_j2 (fun v1_ v2_ v3_ v4_ H_ => r19_l1 k_ v1_ v2_ v3_ v4_ H_) v1 v2 v3 v4 true H6)
                else
                  ((H6.ldI .i64 H.n (0 + 2)).bind fun x21 =>
                  r19_j2 (fun v1_ v2_ v3_ v4_ H_ => r19_l1 k_ v1_ v2_ v3_ v4_ H_) v1 v2 v3 v4 (decide (40 < x21)) H6)))
            else
              ((H6.ldI .i64 H.n (0 + 2)).bind fun x22 =>
              if x22 < (-40) then
                (r19_j2 (fun v1_ v2_ v3_ v4_ H_ => r19_l1 k_ v1_ v2_ v3_ v4_ H_) v1 v2 v3 v4 true H6)
              else
                ((H6.ldI .i64 H.n (0 + 2)).bind fun x24 =>
                r19_j2 (fun v1_ v2_ v3_ v4_ H_ => r19_l1 k_ v1_ v2_ v3_ v4_ H_) v1 v2 v3 v4 (decide (40 < x24)) H6))))))))
  else
    (r19_l3 FUEL v1 v1 (v1.len : Int) 0 H)
noncomputable def r19_j0 (v1 : Sl) (v2 : Bool) (H : Hp) : Option (Bool × Hp) :=
  if v2 = true then
    (some (false, H))
  else
    (r19_l1 FUEL v1 v1 (v1.len : Int) 0 H)
noncomputable def r19 (a0 : Sl) (H : Hp) : Option (Bool × Hp) :=
  if (a0.len : Int) < 3 then
    (r19_j0 a0 true H)
  else
    (r19_j0 a0 (decide (6 < (a0.len : Int))) H)
/- 113 slices.IndexFunc[[]int,int] -/
def ret113 : Int → AV := fun r => .int .i64 r
noncomputable def r113_l0 (app : App) : Nat → Sl → AV → Int → Int → Hp → Option (Int × Hp)
  | 0, _, _, _, _, _ => none
  | k_ + 1, v1, v2, v3, v4, H => if v4 < v3 then
    (ck ((0 : Int) ≤ v4 ∧ v4 < (v1.len : Int)) (
    (H.ldI .i64 v1.b (v1.o + (v4 : Int).toNat * 1)).bind fun x3 =>
    (callv app v2 [.int .i64 x3] H).bind fun p4 =>
    (p4.1.asB).bind fun x5 =>
    if x5 = true then
      (some (v4, p4.2))
    else
      (r113_l0 app k_ v1 v2 v3 (w64 (v4 + 1)) p4.2)))
  else
    (some ((-1), H))
noncomputable def r113 (app : App) (a0 : Sl) (a1 : AV) (H : Hp) : Option (Int × Hp) :=
  r113_l0 app FUEL a0 a1 (a0.len : Int) 0 H
/- 105 slices.ContainsFunc[[]int,int] -/
def ret105 : Bool → AV := fun r => .bool r
noncomputable def r105 (app : App) (a0 : Sl) (a1 : AV) (H : Hp) : Option (Bool × Hp) :=
  (r113 app a0 a1 H).bind fun p1 =>
  some ((decide (0 ≤ p1.1)), p1.2)
/- 79 congou/cuts.within -/
def ret79 : Bool → AV := fun r => .bool r
noncomputable def r79 (app : App) (a0 : Int) (a1 : Sl) (H : Hp) : Option (Bool × Hp) :=
  lt (H.push (.cells [.int .i64 a0] false)) fun H1 =>
  (r105 app a1 (.fn 106 [] [.ptr H.n 0]) H1).bind fun p2 =>
  some ((!p2.1), p2.2)
/- 111 slices.IndexFunc[congou/cuts.plate,congou/cuts.Side] -/
def ret111 : Int → AV := fun r => .int .i64 r
noncomputable def r111_l0 (app : App) : Nat → Sl → AV → Int → Int → Hp → Option (Int × Hp)
  | 0, _, _, _, _, _ => none
  | k_ + 1, v1, v2, v3, v4, H => if v4 < v3 then
    (ck ((0 : Int) ≤ v4 ∧ v4 < (v1.len : Int)) (
    (H.ldI .i64 v1.b (v1.o + (v4 : Int).toNat * 3)).bind fun x3 =>
    (H.ldI .i64 v1.b ((v1.o + (v4 : Int).toNat * 3) + 1)).bind fun x4 =>
    (H.ldI .i64 v1.b ((v1.o + (v4 : Int).toNat * 3) + 2)).bind fun x5 =>
    (callv app v2 [.agg [.int .i64 x3, .int .i64 x4, .int .i64 x5]] H).bind fun p6 =>
    (p6.1.asB).bind fun x7 =>
    if x7 = true then
      (some (v4, p6.2))
    else
      (r111_l0 app k_ v1 v2 v3 (w64 (v4 + 1)) p6.2)))
  else
    (some ((-1), H))
noncomputable def r111 (app : App) (a0 : Sl) (a1 : AV) (H : Hp) : Option (Int × Hp) :=
  r111_l0 app FUEL a0 a1 (a0.len : Int) 0 H
/- 92 slices.ContainsFunc[congou/cuts.plate,congou/cuts.Side] -/
def ret92 : Bool → AV := fun r => .bool r
noncomputable def r92 (app : App) (a0 : Sl) (a1 : AV) (H : Hp) : Option (Bool × Hp) :=
  (r111 app a0 a1 H).bind fun p1 =>
  some ((decide (0 ≤ p1.1)), p1.2)
/- 63 (congou/cuts.plate).valid -/
def ret63 : Bool → AV := fun r => .bool r
noncomputable def r63_j2 (app : App) (kt1 : Sl → Sl → Int → Int → Hp → Option (Bool × Hp)) (v1 : Sl) (v2 : Sl) (v3 : Int) (v4 : Int) (v5 : Bool) (H : Hp) : Option (Bool × Hp) :=
  if v5 = true then
    (some (false, H))
  else
    (kt1 v1 v2 v3 (w64 (v4 + 1)) H)
noncomputable def r63_l4 (app : App) (kt3 : Sl → Sl → Int → Int → Hp → Option (Bool × Hp)) : Nat → Sl → Sl → Int → Int → Sl → Int → Int → Hp → Option (Bool × Hp)
  | 0, _, _, _, _, _, _, _, _ => none
  | k_ + 1, v1, v2, v3, v4, v5, v6, v7, H => if v7 < v6 then
    (ck ((0 : Int) ≤ v7 ∧ v7 < (v5.len : Int)) (
    (H.ldI .i64 v5.b (v5.o + (v7 : Int).toNat * 2)).bind fun x3 =>
    (H.ldI .i64 v5.b ((v5.o + (v7 : Int).toNat * 2) + 1)).bind fun x4 =>
    ((H.push (.cells [.int .i64 0, .int .i64 0] false)).sts H.n 0 [.int .i64 x3, .int .i64 x4]).bind fun H5 =>
    (r92 app v1 (.fn 93 [] [.ptr H.n 0]) H5).bind fun p6 =>
    if p6.1 = true then
      (r63_l4 app kt3 k_ v1 v2 v3 v4 v5 v6 (w64 (v7 + 1)) p6.2)
    else
      (some (false, p6.2))))
  else
    (kt3 v1 v2 v3 (w64 (v4 + 1)) H)
noncomputable def r63_l3 (app : App) : Nat → Sl → Sl → Int → Int → Hp → Option (Bool × Hp)
  | 0, _, _, _, _, _ => none
  | k_ + 1, v1, v2, v3, v4, H => if v4 < v3 then
    (ck ((0 : Int) ≤ v4 ∧ v4 < (v2.len : Int)) (
    (H.ldI .i64 v2.b (v2.o + (v4 : Int).toNat * 3)).bind fun x3 =>
    (H.ldI .i64 v2.b ((v2.o + (v4 : Int).toNat * 3) + 1)).bind fun x4 =>
    (H.ldI .i64 v2.b ((v2.o + (v4 : Int).toNat * 3) + 2)).bind fun x5 =>
    ((H.push (.cells [.int .i64 0, .int .i64 0, .int .i64 0] false)).sts H.n 0 [.int .i64 x3, .int .i64 x4, .int .i64 x5]).bind fun H6 =>
    (H6.ldI .i64 H.n (0 + 1)).bind fun x7 =>
    (H6.ldI .i64 H.n (0 + 0)).bind fun x8 =>
    (H6.ldI .i64 H.n (0 + 1)).bind fun x9 =>
    (H6.ldI .i64 H.n (0 + 0)).bind fun x10 =>
    lt (H6.push (.cells [.int .i64 (w64 (0 - x7)), .int .i64 x8, .int .i64 x9, .int .i64 (w64 (0 - x10))] false)) fun H11 =>
    r63_l4 app (fun v1_ v2_ v3_ v4_ H_ => r63_l3 app k_ v1_ v2_ v3_ v4_ H_) FUEL v1 v2 v3 v4 ⟨false, H6.n, 0, 2, 2, 0⟩ ((⟨false, H6.n, 0, 2, 2, 0⟩ : Sl).len : Int) 0 H11))
  else
    (some (true, H))
noncomputable def r63_l1 (app : App) : Nat → Sl → Sl → Int → Int → Hp → Option (Bool × Hp)
  | 0, _, _, _, _, _ => none
  | k_ + 1, v1, v2, v3, v4, H => if v4 < v3 then
    (ck ((0 : Int) ≤ v4 ∧ v4 < (v2.len : Int)) (
    (H.ldI .i64 v2.b (v2.o + (v4 : Int).toNat * 3)).bind fun x3 =>
    (H.ldI .i64 v2.b ((v2.o + (v4 : Int).toNat * 3) + 1)).bind fun x4 =>
    (H.ldI .i64 v2.b ((v2.o + (v4 : Int).toNat * 3) + 2)).bind fun x5 =>
    ((H.push (.cells [.int .i64 0, .int .i64 0, .int .i64 0] false)).sts H.n 0 [.int .i64 x3, .int .i64 x4, .int .i64 x5]).bind fun H6 =>
    (H6.ldI .i64 H.n (0 + 0)).bind fun x7 =>
    if x7 = 0 then
      ((H6.ldI .i64 H.n (0 + 1)).bind fun x9 =>
      if x9 = 0 then
        (r63_j2 app (fun v1_ v2_ v3_ v4_ H_ => r63_l1 app k_ v1_ v2_ v3_ v4_ H_) v1 v2 v3 v4 true H6)
      else
        ((H6.ldI .i64 H.n (0 + 0)).bind fun x11 =>
        (H6.ldI .i64 H.n (0 + 1)).bind fun x12 =>
        (r79 app 4 ⟨false, H6.n, 0, 2, 2, 0⟩ (H6.push (.cells [.int .i64 x11, .int .i64 x12] false))).bind fun p13 =>
        if p13.1 = true then
          ((p13.2.ldI .i64 H.n (0 + 2)).bind fun x15 =>
          (r79 app 40 ⟨false, p13.2.n, 0, 1, 1, 0⟩ (p13.2.push (.cells [.int .i64 x15] false))).bind fun p16 =>
          r63_j2 app (fun v1_ v2_ v3_ v4_ H_ => r63_l1 app k_ v1_ v2_ v3_ v4_ H_) v1 v2 v3 v4 (!p16.1) p16.2)
        else
          (r63_j2 app (fun v1_ v2_ v3_ v4_ H_ => r63_l1 app k_ v1_ v2_ v3_ v4_ H_) v1 v2 v3 v4 true p13.2)))
    else
      ((H6.ldI .i64 H.n (0 + 0)).bind fun x17 =>
      (H6.ldI .i64 H.n (0 + 1)).bind fun x18 =>
      (r79 app 4 ⟨false, H6.n, 0, 2, 2, 0⟩ (H6.push (.cells [.int .i64 x17, .int .i64 x18] false))).bind fun p19 =>
      if p19.1 = true then
        ((p19.2.ldI .i64 H.n (0 + 2)).bind fun x21 =>
        (r79 app 40 ⟨false, p19.2.n, 0, 1, 1, 0⟩ (p19.2.push (.cells [.int .i64 x21] false))).bind fun p22 =>
        r63_j2 app (fun v1_ v2_ v3_ v4_ H_ => r63_l1 app k_ v1_ v2_ v3_ v4_ H_) v1 v2 v3 v4 (!p22.1) p22.2)
      else
        (r63_j2 app (fun v1_ v2_ v3_ v4_ H_ => r63_l1 app k_ v1_ v2_ v3_ v4_ H_) v1 v2 v3 v4 true p19.2))))
  else
    (r63_l3 app FUEL v1 v1 (v1.len : Int) 0 H)
noncomputable def r63_j0 (app : App) (v1 : Sl) (v2 : Bool) (H : Hp) : Option (Bool × Hp) :=
  if v2 = true then
    (some (false, H))
  else
    (r63_l1 app FUEL v1 v1 (v1.len : Int) 0 H)
noncomputable def r63 (app : App) (a0 : Sl) (H : Hp) : Option (Bool × Hp) :=
  if (a0.len : Int) < 3 then
    (r63_j0 app a0 true H)
  else
    (r63_j0 app a0 (decide (6 < (a0.len : Int))) H)
/- 65 (congou/cuts.plate).has -/
def ret65 : Bool → AV := fun r => .bool r
noncomputable def r65 (app : App) (a0 : Sl) (a1_0 : Int) (a1_1 : Int) (a1_2 : Int) (a1_3 : Int) (H : Hp) : Option (Bool × Hp) :=
  lt (H.push (.cells [.int .i64 a1_0, .int .i64 a1_1, .int .i64 a1_2, .int .i64 a1_3] false)) fun H1 =>
  (r92 app a0 (.fn 95 [] [.ptr H.n 0]) H1).bind fun p2 =>
  some ((!p2.1), p2.2)
/- 94 congou/cuts.gcd -/
def ret94 : Int → AV := fun r => .int .i64 r
noncomputable def r94_l0 : Nat → Int → Int → Hp → Option (Int × Hp)
  | 0, _, _, _ => none
  | k_ + 1, v1, v2, H => if v2 ≠ 0 then
    (ck (v2 ≠ 0) (
    r94_l0 k_ v2 (Int.tmod v1 v2) H))
  else
    (some ((if v1 < (w64 (0 - v1)) then (w64 (0 - v1)) else v1), H))
noncomputable def r94 (a0 : Int) (a1 : Int) (H : Hp) : Option (Int × Hp) :=
  r94_l0 FUEL a0 a1 H
/- 100 congou/cuts.frac -/
def ret100 : Int × Int → AV := fun r => .agg [.int .i64 r.1, .int .i64 r.2]
noncomputable def r100_j0 (v1 : Int) (v2 : Int) (v3 : Nat) (H : Hp) : Option ((Int × Int) × Hp) :=
  (r94 v1 v2 H0).bind fun p1 =>
  ck (p1.1 ≠ 0) (
  ck (p1.1 ≠ 0) (
  (H.sts v3 0 [.int .i64 (w64 (Int.tdiv v1 p1.1)), .int .i64 (w64 (Int.tdiv v2 p1.1))]).bind fun H4 =>
  (H4.ldI .i64 v3 0).bind fun x5 =>
  (H4.ldI .i64 v3 (0 + 1)).bind fun x6 =>
  some ((x5, x6), H4)))
noncomputable def r100 (a0 : Int) (a1 : Int) (H : Hp) : Option ((Int × Int) × Hp) :=
  lt (H.push (.cells [.int .i64 0, .int .i64 0] false)) fun H1 =>
  if a1 < 0 then
    (r100_j0 (w64 (0 - a0)) (w64 (0 - a1)) H.n H1)
  else
    (r100_j0 a0 a1 H.n H1)
/- 80 congou/cuts.whole -/
def ret80 : Int × Int × Int × Int → AV := fun r => .agg [.int .i64 r.1, .int .i64 r.2.1, .int .i64 r.2.2.1, .int .i64 r.2.2.2]
noncomputable def r80 (a0 : Int) (a1 : Int) (H : Hp) : Option ((Int × Int × Int × Int) × Hp) :=
  lt (H.push (.cells [.int .i64 0, .int .i64 0, .int .i64 0, .int .i64 0] false)) fun H1 =>
  (r100 a0 1 H0).bind fun p2 =>
  (r100 a1 1 H0).bind fun p3 =>
  (H1.sts H.n 0 [.int .i64 p2.1.1, .int .i64 p2.1.2, .int .i64 p3.1.1, .int .i64 p3.1.2]).bind fun H4 =>
  (H4.ldI .i64 H.n 0).bind fun x5 =>
  (H4.ldI .i64 H.n (0 + 1)).bind fun x6 =>
  (H4.ldI .i64 H.n (0 + 2)).bind fun x7 =>
  (H4.ldI .i64 H.n (0 + 3)).bind fun x8 =>
  some ((x5, x6, x7, x8), H4)
/- 68 congou/cuts.down -/
def ret68 : Int → AV := fun r => .int .i64 r
noncomputable def r68_j0 (v1 : Int) (v2 : Bool) (H : Hp) : Option (Int × Hp) :=
  if v2 = true then
    (some (w64 (v1 - 1), H))
  else
    (some (v1, H))
noncomputable def r68 (a0_0 : Int) (a0_1 : Int) (H : Hp) : Option (Int × Hp) :=
  lt (H.push (.cells [.int .i64 a0_0, .int .i64 a0_1] false)) fun H1 =>
  (H1.ldI .i64 H.n (0 + 0)).bind fun x2 =>
  (H1.ldI .i64 H.n (0 + 1)).bind fun x3 =>
  ck (x3 ≠ 0) (
  (H1.ldI .i64 H.n (0 + 0)).bind fun x5 =>
  if x5 < 0 then
    ((H1.ldI .i64 H.n (0 + 1)).bind fun x7 =>
    (H1.ldI .i64 H.n (0 + 0)).bind fun x8 =>
    r68_j0 (w64 (Int.tdiv x2 x3)) (decide ((w64 ((w64 (Int.tdiv x2 x3)) * x7)) ≠ x8)) H1)
  else
    (r68_j0 (w64 (Int.tdiv x2 x3)) false H1))
/- 101 (congou/cuts.plate).box -/
def ret101 : Int × Int × Int × Int × Bool → AV := fun r => .tup [.agg [.int .i64 r.1, .int .i64 r.2.1], .agg [.int .i64 r.2.2.1, .int .i64 r.2.2.2.1], .bool r.2.2.2.2]
noncomputable def r101 (app : App) (a0 : Sl) (H : Hp) : Option ((Int × Int × Int × Int × Bool) × Hp) :=
  lt (((H.push (.cells [.int .i64 0, .int .i64 0] false)).push (.cells [.int .i64 0, .int .i64 0] false)).push (.cells [.bool false] false)) fun H1 =>
  (callr app (.fn 66 [.sl a0] []) (H1.n + 1) ((H1.push .dfr).push (.loop .ready none 0 59 [(2, .ptr H.n 0), (3, .ptr ((H.push (.cells [.int .i64 0, .int .i64 0] false)).n) 0), (4, .ptr (((H.push (.cells [.int .i64 0, .int .i64 0] false)).push (.cells [.int .i64 0, .int .i64 0] false)).n) 0)]))).bind fun p2 =>
  (p2.2.lend (H1.n + 1)).bind fun q3 =>
  if jmp q3.1 = some 0 then
    ((q3.2.ldI .i64 H.n 0).bind fun x5 =>
    (q3.2.ldI .i64 H.n (0 + 1)).bind fun x6 =>
    (q3.2.ldI .i64 ((H.push (.cells [.int .i64 0, .int .i64 0] false)).n) 0).bind fun x7 =>
    (q3.2.ldI .i64 ((H.push (.cells [.int .i64 0, .int .i64 0] false)).n) (0 + 1)).bind fun x8 =>
    (q3.2.ldB (((H.push (.cells [.int .i64 0, .int .i64 0] false)).push (.cells [.int .i64 0, .int .i64 0] false)).n) 0).bind fun x9 =>
    (q3.2.sts H.n 0 [.int .i64 x5, .int .i64 x6]).bind fun H10 =>
    (H10.sts ((H.push (.cells [.int .i64 0, .int .i64 0] false)).n) 0 [.int .i64 x7, .int .i64 x8]).bind fun H11 =>
    (H11.st (((H.push (.cells [.int .i64 0, .int .i64 0] false)).push (.cells [.int .i64 0, .int .i64 0] false)).n) 0 (.bool x9)).bind fun H12 =>
    ck (H10.ldI .i64 ((H.push (.cells [.int .i64 0, .int .i64 0] false)).n) 0 = some x7) (
    ck (H10.ldI .i64 ((H.push (.cells [.int .i64 0, .int .i64 0] false)).n) (0 + 1) = some x8) (
    ck (H10.ldB (((H.push (.cells [.int .i64 0, .int .i64 0] false)).push (.cells [.int .i64 0, .int .i64 0] false)).n) 0 = some x9) (
    ck (H11.ldI .i64 ((H.push (.cells [.int .i64 0, .int .i64 0] false)).n) 0 = some x7) (
    ck (H11.ldI .i64 ((H.push (.cells [.int .i64 0, .int .i64 0] false)).n) (0 + 1) = some x8) (
    ck (H11.ldB (((H.push (.cells [.int .i64 0, .int .i64 0] false)).push (.cells [.int .i64 0, .int .i64 0] false)).n) 0 = some x9) (
    (H12.ldI .i64 H.n 0).bind fun x19 =>
    (H12.ldI .i64 H.n (0 + 1)).bind fun x20 =>
    (H12.ldI .i64 ((H.push (.cells [.int .i64 0, .int .i64 0] false)).n) 0).bind fun x21 =>
    (H12.ldI .i64 ((H.push (.cells [.int .i64 0, .int .i64 0] false)).n) (0 + 1)).bind fun x22 =>
    (H12.ldB (((H.push (.cells [.int .i64 0, .int .i64 0] false)).push (.cells [.int .i64 0, .int .i64 0] false)).n) 0).bind fun x23 =>
    ck (dfrB [H1.n] H12 = true) (
    some ((x19, x20, x21, x22, x23), kill [H1.n] H12)))))))))
  else
    (none)
noncomputable def r101q0_j1 (app : App) (l_ : Nat) (kt0 : Nat → Nat → Nat → Nat → Int → Hp → Option ((Option Code) × Hp)) (v1 : Nat) (v2 : Nat) (v3 : Nat) (v4 : Nat) (v5 : Int) (v6 : Int) (v7 : Bool) (H : Hp) : Option ((Option Code) × Hp) :=
  if v7 = true then
    (ck ((0 : Int) ≤ v5 ∧ v5 < ((2 : Nat) : Int)) (
    (H.ldI .i64 v4 (0 + (v5 : Int).toNat * 1)).bind fun x3 =>
    ck ((0 : Int) ≤ v5 ∧ v5 < ((2 : Nat) : Int)) (
    (H.st v2 (0 + (v5 : Int).toNat * 1) (.int .i64 x3)).bind fun H5 =>
    kt0 v1 v2 v3 v4 (w64 (v6 + 1)) H5)))
  else
    (kt0 v1 v2 v3 v4 (w64 (v6 + 1)) H)
noncomputable def r101q0_j2 (app : App) (l_ : Nat) (kt0 : Nat → Nat → Nat → Nat → Int → Hp → Option ((Option Code) × Hp)) (v1 : Nat) (v2 : Nat) (v3 : Nat) (v4 : Nat) (v5 : Int) (v6 : Int) (H : Hp) : Option ((Option Code) × Hp) :=
  (H.ldB v3 0).bind fun x1 =>
  if x1 = true then
    (ck ((0 : Int) ≤ v5 ∧ v5 < ((2 : Nat) : Int)) (
    (H.ldI .i64 v4 (0 + (v5 : Int).toNat * 1)).bind fun x4 =>
    ck ((0 : Int) ≤ v5 ∧ v5 < ((2 : Nat) : Int)) (
    (H.ldI .i64 v2 (0 + (v5 : Int).toNat * 1)).bind fun x6 =>
    r101q0_j1 app l_ kt0 v1 v2 v3 v4 v5 v6 (decide (x6 < x4)) H)))
  else
    (r101q0_j1 app l_ kt0 v1 v2 v3 v4 v5 v6 true H)
noncomputable def r101q0_j3 (app : App) (l_ : Nat) (kt0 : Nat → Nat → Nat → Nat → Int → Hp → Option ((Option Code) × Hp)) (v1 : Nat) (v2 : Nat) (v3 : Nat) (v4 : Nat) (v5 : Int) (v6 : Int) (v7 : Bool) (H : Hp) : Option ((Option Code) × Hp) :=
  if v7 = true then
    (ck ((0 : Int) ≤ v5 ∧ v5 < ((2 : Nat) : Int)) (
    (H.ldI .i64 v4 (0 + (v5 : Int).toNat * 1)).bind fun x3 =>
    ck ((0 : Int) ≤ v5 ∧ v5 < ((2 : Nat) : Int)) (
    (H.st v1 (0 + (v5 : Int).toNat * 1) (.int .i64 x3)).bind fun H5 =>
    r101q0_j2 app l_ kt0 v1 v2 v3 v4 v5 v6 H5)))
  else
    (r101q0_j2 app l_ kt0 v1 v2 v3 v4 v5 v6 H)
noncomputable def r101q0_l0 (app : App) (l_ : Nat) : Nat → Nat → Nat → Nat → Nat → Int → Hp → Option ((Option Code) × Hp)
  | 0, _, _, _, _, _, _ => none
  | k_ + 1, v1, v2, v3, v4, v5, H => if v5 < 2 then
    ((H.ldB v3 0).bind fun x2 =>
    if x2 = true then
      (ck ((0 : Int) ≤ v5 ∧ v5 < ((2 : Nat) : Int)) (
      (H.ldI .i64 v4 (0 + (v5 : Int).toNat * 1)).bind fun x5 =>
      ck ((0 : Int) ≤ v5 ∧ v5 < ((2 : Nat) : Int)) (
      (H.ldI .i64 v1 (0 + (v5 : Int).toNat * 1)).bind fun x7 =>
      r101q0_j3 app l_ (fun v1_ v2_ v3_ v4_ v5_ H_ => r101q0_l0 app l_ k_ v1_ v2_ v3_ v4_ v5_ H_) v1 v2 v3 v4 v5 v5 (decide (x5 < x7)) H)))
    else
      (r101q0_j3 app l_ (fun v1_ v2_ v3_ v4_ v5_ H_ => r101q0_l0 app l_ k_ v1_ v2_ v3_ v4_ v5_ H_) v1 v2 v3 v4 v5 v5 true H))
  else
    ((H.st v3 0 (.bool true)).bind fun H8 =>
    some (none, H8))
noncomputable def r101q0 (app : App) (l_ : Nat) (v1 : Nat) (v2 : Nat) (v3 : Nat) (y0_0 : Int) (y0_1 : Int) (y0_2 : Int) (y0_3 : Int) (y0_4 : Int) (y0_5 : Int) (y0_6 : Int) (y0_7 : Int) (y0_8 : Int) (y0_9 : Int) (H : Hp) : Option ((Option Code) × Hp) :=
  ((H.push (.cells [.int .i64 0, .int .i64 0, .int .i64 0, .int .i64 0, .int .i64 0, .int .i64 0, .int .i64 0, .int .i64 0, .int .i64 0, .int .i64 0] false)).sts H.n 0 [.int .i64 y0_0, .int .i64 y0_1, .int .i64 y0_2, .int .i64 y0_3, .int .i64 y0_4, .int .i64 y0_5, .int .i64 y0_6, .int .i64 y0_7, .int .i64 y0_8, .int .i64 y0_9]).bind fun H1 =>
  (H1.lbegin l_).bind fun H2 =>
  (H2.ldI .i64 H.n ((0 + 0) + 0)).bind fun x3 =>
  (H2.ldI .i64 H.n (((0 + 0) + 0) + 1)).bind fun x4 =>
  (r68 x3 x4 H0).bind fun p5 =>
  (H2.ldI .i64 H.n ((0 + 0) + 2)).bind fun x6 =>
  (H2.ldI .i64 H.n (((0 + 0) + 2) + 1)).bind fun x7 =>
  (r68 x6 x7 H0).bind fun p8 =>
  ((H2.push (.cells [.int .i64 0, .int .i64 0] false)).sts H2.n 0 [.int .i64 p5.1, .int .i64 p8.1]).bind fun H9 =>
  r101q0_l0 app l_ FUEL v1 v2 v3 H2.n 0 H9
/- 71 (congou/cuts.plate).points -/
def ret71 : Sl → AV := fun r => .sl r
noncomputable def r71_l1 (app : App) (kt0 : Sl → Nat → Nat → Sl → Int → Hp → Option (Sl × Hp)) : Nat → Sl → Nat → Nat → Sl → Int → Int → Hp → Option (Sl × Hp)
  | 0, _, _, _, _, _, _, _ => none
  | k_ + 1, v1, v2, v3, v4, v5, v6, H => (H.ldI .i64 v3 (0 + (1 : Int).toNat * 1)).bind fun x1 =>
  if v6 ≤ x1 then
    ((r80 v5 v6 H0).bind fun p3 =>
    (r65 app v1 p3.1.1 p3.1.2.1 p3.1.2.2.1 p3.1.2.2.2 H).bind fun p4 =>
    if p4.1 = true then
      ((p4.2.apN 2 v4 [.int .i64 v5, .int .i64 v6] 1).bind fun x6 =>
      r71_l1 app kt0 k_ v1 v2 v3 x6.1 v5 (w64 (v6 + 1)) x6.2)
    else
      (r71_l1 app kt0 k_ v1 v2 v3 v4 v5 (w64 (v6 + 1)) p4.2))
  else
    (kt0 v1 v2 v3 v4 (w64 (v5 + 1)) H)
noncomputable def r71_l0 (app : App) : Nat → Sl → Nat → Nat → Sl → Int → Hp → Option (Sl × Hp)
  | 0, _, _, _, _, _, _ => none
  | k_ + 1, v1, v2, v3, v4, v5, H => (H.ldI .i64 v3 (0 + (0 : Int).toNat * 1)).bind fun x1 =>
  if v5 ≤ x1 then
    ((H.ldI .i64 v2 (0 + (1 : Int).toNat * 1)).bind fun x3 =>
    r71_l1 app (fun v1_ v2_ v3_ v4_ v5_ H_ => r71_l0 app k_ v1_ v2_ v3_ v4_ v5_ H_) FUEL v1 v2 v3 v4 v5 x3 H)
  else
    (some (v4, H))
noncomputable def r71 (app : App) (a0 : Sl) (H : Hp) : Option (Sl × Hp) :=
  (r101 app a0 H).bind fun p1 =>
  (((p1.2.push (.cells [.int .i64 0, .int .i64 0] false)).push (.cells [.int .i64 0, .int .i64 0] false)).sts p1.2.n 0 [.int .i64 p1.1.1, .int .i64 p1.1.2.1]).bind fun H2 =>
  (H2.sts ((p1.2.push (.cells [.int .i64 0, .int .i64 0] false)).n) 0 [.int .i64 p1.1.2.2.1, .int .i64 p1.1.2.2.2.1]).bind fun H3 =>
  if p1.1.2.2.2.2 = true then
    ((H3.ldI .i64 p1.2.n (0 + (0 : Int).toNat * 1)).bind fun x5 =>
    r71_l0 app FUEL a0 p1.2.n ((p1.2.push (.cells [.int .i64 0, .int .i64 0] false)).n) ⟨true, 0, 0, 0, 0, 0⟩ x5 H3)
  else
    (some (⟨true, 0, 0, 0, 0, 0⟩, H3))
/- 40 congou/cuts.Points -/
def ret40 : Sl × Int → AV := fun r => .tup [.sl r.1, .int .i64 r.2]
noncomputable def r40 (app : App) (a0 : Sl) (H : Hp) : Option ((Sl × Int) × Hp) :=
  (r63 app a0 H).bind fun p1 =>
  if p1.1 = true then
    ((r71 app a0 p1.2).bind fun p3 =>
    some ((p3.1, 0), p3.2))
  else
    (some ((⟨true, 0, 0, 0, 0, 0⟩, 2), p1.2))
/- 21 congou/congoulaw02.awake -/
def ret21 : Bool → AV := fun r => .bool r
noncomputable def r21 (app : App) (H : Hp) : Option (Bool × Hp) :=
  (r40 app ⟨false, H.n, 0, 4, 4, 0⟩ (H.push (.cells [.int .i64 1, .int .i64 0, .int .i64 1, .int .i64 (-1), .int .i64 0, .int .i64 (-1), .int .i64 0, .int .i64 1, .int .i64 2, .int .i64 0, .int .i64 (-1), .int .i64 (-2)] false))).bind fun p1 =>
  if p1.1.2 = 0 then
    (if (p1.1.1.len : Int) = 1 then
      (ck ((0 : Int) ≤ 0 ∧ 0 < (p1.1.1.len : Int)) (
      (p1.2.ldI .i64 p1.1.1.b (p1.1.1.o + (0 : Int).toNat * 2)).bind fun x5 =>
      (p1.2.ldI .i64 p1.1.1.b ((p1.1.1.o + (0 : Int).toNat * 2) + 1)).bind fun x6 =>
      some ((AV.keqs [.int .i64 x5, .int .i64 x6] [.int .i64 1, .int .i64 2]), p1.2)))
    else
      (some (false, p1.2)))
  else
    (some (false, p1.2))
/- 82 slices.MaxFunc[[][2]int,[2]int] -/
def ret82 : Int × Int → AV := fun r => .agg [.int .i64 r.1, .int .i64 r.2]
noncomputable def r82_l0 (app : App) : Nat → Sl → AV → Nat → Nat → Int → Hp → Option ((Int × Int) × Hp)
  | 0, _, _, _, _, _, _ => none
  | k_ + 1, v1, v2, v3, v4, v5, H => if v5 < (v1.len : Int) then
    (ck ((0 : Int) ≤ v5 ∧ v5 < (v1.len : Int)) (
    (H.ldI .i64 v1.b (v1.o + (v5 : Int).toNat * 2)).bind fun x3 =>
    (H.ldI .i64 v1.b ((v1.o + (v5 : Int).toNat * 2) + 1)).bind fun x4 =>
    (H.ldI .i64 v4 0).bind fun x5 =>
    (H.ldI .i64 v4 (0 + 1)).bind fun x6 =>
    (callv app v2 [.agg [.int .i64 x3, .int .i64 x4], .agg [.int .i64 x5, .int .i64 x6]] H).bind fun p7 =>
    (p7.1.asI .i64).bind fun x8 =>
    if 0 < x8 then
      (ck ((0 : Int) ≤ v5 ∧ v5 < (v1.len : Int)) (
      (p7.2.ldI .i64 v1.b (v1.o + (v5 : Int).toNat * 2)).bind fun x11 =>
      (p7.2.ldI .i64 v1.b ((v1.o + (v5 : Int).toNat * 2) + 1)).bind fun x12 =>
      (p7.2.sts v4 0 [.int .i64 x11, .int .i64 x12]).bind fun H13 =>
      r82_l0 app k_ v1 v2 v3 v4 (w64 (v5 + 1)) H13))
    else
      (r82_l0 app k_ v1 v2 v3 v4 (w64 (v5 + 1)) p7.2)))
  else
    ((H.ldI .i64 v4 0).bind fun x14 =>
    (H.ldI .i64 v4 (0 + 1)).bind fun x15 =>
    (H.sts v3 0 [.int .i64 x14, .int .i64 x15]).bind fun H16 =>
    (H16.ldI .i64 v3 0).bind fun x17 =>
    (H16.ldI .i64 v3 (0 + 1)).bind fun x18 =>
    some ((x17, x18), H16))
noncomputable def r82 (app : App) (a0 : Sl) (a1 : AV) (H : Hp) : Option ((Int × Int) × Hp) :=
  lt (H.push (.cells [.int .i64 0, .int .i64 0] false)) fun H1 =>
  if (a0.len : Int) < 1 then
    (none)
  else
    (ck ((0 : Int) ≤ 0 ∧ 0 < (a0.len : Int)) (
    (H1.ldI .i64 a0.b (a0.o + (0 : Int).toNat * 2)).bind fun x4 =>
    (H1.ldI .i64 a0.b ((a0.o + (0 : Int).toNat * 2) + 1)).bind fun x5 =>
    ((H1.push (.cells [.int .i64 0, .int .i64 0] false)).sts H1.n 0 [.int .i64 x4, .int .i64 x5]).bind fun H6 =>
    r82_l0 app FUEL a0 a1 H.n H1.n 1 H6))
/- 42 congou/cuts.Best -/
def ret42 : Int × Int → AV := fun r => .tup [.int .i64 r.1, .int .i64 r.2]
noncomputable def r42_j0 (app : App) (v1 : Sl) (v2 : Nat) (v3 : Nat) (v4 : Bool) (H : Hp) : Option ((Int × Int) × Hp) :=
  if v4 = true then
    (some ((0, 2), H))
  else
    ((r71 app v1 H).bind fun p2 =>
    if (p2.1.len : Int) = 0 then
      (some ((0, 4), p2.2))
    else
      (((p2.2.push (.cells [.nilfn] false)).st p2.2.n 0 (.fn 81 [] [.ptr v2 0, .ptr v3 0])).bind fun H4 =>
      (H4.ldV p2.2.n 0).bind fun x5 =>
      (r82 app p2.1 (.fn 83 [] [.ptr p2.2.n 0]) H4).bind fun p6 =>
      (callv app x5 [.agg [.int .i64 p6.1.1, .int .i64 p6.1.2]] p6.2).bind fun p7 =>
      (p7.1.asI .i64).bind fun x8 =>
      ck (p6.2.isV p2.2.n 0 x5 = true) (
      some ((x8, 0), p7.2))))
noncomputable def r42 (app : App) (a0 : Sl) (a1 : Int) (a2 : Int) (H : Hp) : Option ((Int × Int) × Hp) :=
  lt ((H.push (.cells [.int .i64 a1] false)).push (.cells [.int .i64 a2] false)) fun H1 =>
  (r63 app a0 H1).bind fun p2 =>
  if p2.1 = true then
    ((p2.2.ldI .i64 H.n 0).bind fun x4 =>
    (p2.2.ldI .i64 ((H.push (.cells [.int .i64 a1] false)).n) 0).bind fun x5 =>
    (r79 app 9 ⟨false, p2.2.n, 0, 2, 2, 0⟩ (p2.2.push (.cells [.int .i64 x4, .int .i64 x5] false))).bind fun p6 =>
    r42_j0 app a0 H.n ((H.push (.cells [.int .i64 a1] false)).n) (!p6.1) p6.2)
  else
    (r42_j0 app a0 H.n ((H.push (.cells [.int .i64 a1] false)).n) true p2.2)
/- 48 congou/congoulaw02.near -/
def ret48 : Bool → AV := fun r => .bool r
noncomputable def r48 (a0 : Int) (a1 : Int) (H : Hp) : Option (Bool × Hp) :=
  if (-9) ≤ a0 then
    (if a0 ≤ 9 then
      (if (-9) ≤ a1 then
        (some ((decide (a1 ≤ 9)), H))
      else
        (some (false, H)))
    else
      (some (false, H)))
  else
    (some (false, H))
/- 114 slices.insertionSortCmpFunc[congou/cuts.Point] -/
def ret114 : Unit → AV := fun _ => .tup []
noncomputable def r114_j2 (app : App) (kt0 : Sl → Int → Int → AV → Int → Hp → Option (Unit × Hp)) (kt1 : Sl → Int → Int → AV → Int → Int → Hp → Option (Unit × Hp)) (v1 : Sl) (v2 : Int) (v3 : Int) (v4 : AV) (v5 : Int) (v6 : Int) (v7 : Bool) (H : Hp) : Option (Unit × Hp) :=
  if v7 = true then
    (ck ((0 : Int) ≤ (w64 (v6 - 1)) ∧ (w64 (v6 - 1)) < (v1.len : Int)) (
    (H.ldI .i64 v1.b (v1.o + (w64 (v6 - 1) : Int).toNat * 4)).bind fun x3 =>
    (H.ldI .i64 v1.b ((v1.o + (w64 (v6 - 1) : Int).toNat * 4) + 1)).bind fun x4 =>
    (H.ldI .i64 v1.b ((v1.o + (w64 (v6 - 1) : Int).toNat * 4) + 2)).bind fun x5 =>
    (H.ldI .i64 v1.b ((v1.o + (w64 (v6 - 1) : Int).toNat * 4) + 3)).bind fun x6 =>
    ck ((0 : Int) ≤ v6 ∧ v6 < (v1.len : Int)) (
    (H.ldI .i64 v1.b (v1.o + (v6 : Int).toNat * 4)).bind fun x8 =>
    (H.ldI .i64 v1.b ((v1.o + (v6 : Int).toNat * 4) + 1)).bind fun x9 =>
    (H.ldI .i64 v1.b ((v1.o + (v6 : Int).toNat * 4) + 2)).bind fun x10 =>
    (H.ldI .i64 v1.b ((v1.o + (v6 : Int).toNat * 4) + 3)).bind fun x11 =>
    ck ((0 : Int) ≤ v6 ∧ v6 < (v1.len : Int)) (
    (H.sts v1.b (v1.o + (v6 : Int).toNat * 4) [.int .i64 x3, .int .i64 x4, .int .i64 x5, .int .i64 x6]).bind fun H13 =>
    ck ((0 : Int) ≤ (w64 (v6 - 1)) ∧ (w64 (v6 - 1)) < (v1.len : Int)) (
    (H13.sts v1.b (v1.o + (w64 (v6 - 1) : Int).toNat * 4) [.int .i64 x8, .int .i64 x9, .int .i64 x10, .int .i64 x11]).bind fun H15 =>
    kt1 v1 v2 v3 v4 v5 (w64 (v6 - 1)) H15)))))
  else
    (kt0 v1 v2 v3 v4 (w64 (v5 + 1)) H)
noncomputable def r114_l1 (app : App) (kt0 : Sl → Int → Int → AV → Int → Hp → Option (Unit × Hp)) : Nat → Sl → Int → Int → AV → Int → Int → Hp → Option (Unit × Hp)
  | 0, _, _, _, _, _, _, _ => none
  | k_ + 1, v1, v2, v3, v4, v5, v6, H => if v2 < v6 then
    (ck ((0 : Int) ≤ v6 ∧ v6 < (v1.len : Int)) (
    (H.ldI .i64 v1.b (v1.o + (v6 : Int).toNat * 4)).bind fun x3 =>
    (H.ldI .i64 v1.b ((v1.o + (v6 : Int).toNat * 4) + 1)).bind fun x4 =>
    (H.ldI .i64 v1.b ((v1.o + (v6 : Int).toNat * 4) + 2)).bind fun x5 =>
    (H.ldI .i64 v1.b ((v1.o + (v6 : Int).toNat * 4) + 3)).bind fun x6 =>
    ck ((0 : Int) ≤ (w64 (v6 - 1)) ∧ (w64 (v6 - 1)) < (v1.len : Int)) (
    (H.ldI .i64 v1.b (v1.o + (w64 (v6 - 1) : Int).toNat * 4)).bind fun x8 =>
    (H.ldI .i64 v1.b ((v1.o + (w64 (v6 - 1) : Int).toNat * 4) + 1)).bind fun x9 =>
    (H.ldI .i64 v1.b ((v1.o + (w64 (v6 - 1) : Int).toNat * 4) + 2)).bind fun x10 =>
    (H.ldI .i64 v1.b ((v1.o + (w64 (v6 - 1) : Int).toNat * 4) + 3)).bind fun x11 =>
    (callv app v4 [.agg [.int .i64 x3, .int .i64 x4, .int .i64 x5, .int .i64 x6], .agg [.int .i64 x8, .int .i64 x9, .int .i64 x10, .int .i64 x11]] H).bind fun p12 =>
    (p12.1.asI .i64).bind fun x13 =>
    r114_j2 app kt0 (fun v1_ v2_ v3_ v4_ v5_ v6_ H_ => r114_l1 app kt0 k_ v1_ v2_ v3_ v4_ v5_ v6_ H_) v1 v2 v3 v4 v5 v6 (decide (x13 < 0)) p12.2)))
  else
    (r114_j2 app kt0 (fun v1_ v2_ v3_ v4_ v5_ v6_ H_ => r114_l1 app kt0 k_ v1_ v2_ v3_ v4_ v5_ v6_ H_) v1 v2 v3 v4 v5 v6 false H)
noncomputable def r114_l0 (app : App) : Nat → Sl → Int → Int → AV → Int → Hp → Option (Unit × Hp)
  | 0, _, _, _, _, _, _ => none
  | k_ + 1, v1, v2, v3, v4, v5, H => if v5 < v3 then
    (r114_l1 app (fun v1_ v2_ v3_ v4_ v5_ H_ => r114_l0 app k_ v1_ v2_ v3_ v4_ v5_ H_) FUEL v1 v2 v3 v4 v5 v5 H)
  else
    (some ((), H))
noncomputable def r114 (app : App) (a0 : Sl) (a1 : Int) (a2 : Int) (a3 : AV) (H : Hp) : Option (Unit × Hp) :=
  r114_l0 app FUEL a0 a1 a2 a3 (w64 (a1 + 1)) H
/- 124 slices.siftDownCmpFunc[congou/cuts.Point] -/
def ret124 : Unit → AV := fun _ => .tup []
noncomputable def r124_j1 (app : App) (kt0 : Sl → Int → Int → AV → Int → Hp → Option (Unit × Hp)) (v1 : Sl) (v2 : Int) (v3 : Int) (v4 : AV) (v5 : Int) (v6 : Int) (H : Hp) : Option (Unit × Hp) :=
  ck ((0 : Int) ≤ (w64 (v3 + v5)) ∧ (w64 (v3 + v5)) < (v1.len : Int)) (
  (H.ldI .i64 v1.b (v1.o + (w64 (v3 + v5) : Int).toNat * 4)).bind fun x2 =>
  (H.ldI .i64 v1.b ((v1.o + (w64 (v3 + v5) : Int).toNat * 4) + 1)).bind fun x3 =>
  (H.ldI .i64 v1.b ((v1.o + (w64 (v3 + v5) : Int).toNat * 4) + 2)).bind fun x4 =>
  (H.ldI .i64 v1.b ((v1.o + (w64 (v3 + v5) : Int).toNat * 4) + 3)).bind fun x5 =>
  ck ((0 : Int) ≤ (w64 (v3 + v6)) ∧ (w64 (v3 + v6)) < (v1.len : Int)) (
  (H.ldI .i64 v1.b (v1.o + (w64 (v3 + v6) : Int).toNat * 4)).bind fun x7 =>
  (H.ldI .i64 v1.b ((v1.o + (w64 (v3 + v6) : Int).toNat * 4) + 1)).bind fun x8 =>
  (H.ldI .i64 v1.b ((v1.o + (w64 (v3 + v6) : Int).toNat * 4) + 2)).bind fun x9 =>
  (H.ldI .i64 v1.b ((v1.o + (w64 (v3 + v6) : Int).toNat * 4) + 3)).bind fun x10 =>
  (callv app v4 [.agg [.int .i64 x2, .int .i64 x3, .int .i64 x4, .int .i64 x5], .agg [.int .i64 x7, .int .i64 x8, .int .i64 x9, .int .i64 x10]] H).bind fun p11 =>
  (p11.1.asI .i64).bind fun x12 =>
  if x12 < 0 then
    (ck ((0 : Int) ≤ (w64 (v3 + v6)) ∧ (w64 (v3 + v6)) < (v1.len : Int)) (
    (p11.2.ldI .i64 v1.b (v1.o + (w64 (v3 + v6) : Int).toNat * 4)).bind fun x15 =>
    (p11.2.ldI .i64 v1.b ((v1.o + (w64 (v3 + v6) : Int).toNat * 4) + 1)).bind fun x16 =>
    (p11.2.ldI .i64 v1.b ((v1.o + (w64 (v3 + v6) : Int).toNat * 4) + 2)).bind fun x17 =>
    (p11.2.ldI .i64 v1.b ((v1.o + (w64 (v3 + v6) : Int).toNat * 4) + 3)).bind fun x18 =>
    ck ((0 : Int) ≤ (w64 (v3 + v5)) ∧ (w64 (v3 + v5)) < (v1.len : Int)) (
    (p11.2.ldI .i64 v1.b (v1.o + (w64 (v3 + v5) : Int).toNat * 4)).bind fun x20 =>
    (p11.2.ldI .i64 v1.b ((v1.o + (w64 (v3 + v5) : Int).toNat * 4) + 1)).bind fun x21 =>
    (p11.2.ldI .i64 v1.b ((v1.o + (w64 (v3 + v5) : Int).toNat * 4) + 2)).bind fun x22 =>
    (p11.2.ldI .i64 v1.b ((v1.o + (w64 (v3 + v5) : Int).toNat * 4) + 3)).bind fun x23 =>
    ck ((0 : Int) ≤ (w64 (v3 + v5)) ∧ (w64 (v3 + v5)) < (v1.len : Int)) (
    (p11.2.sts v1.b (v1.o + (w64 (v3 + v5) : Int).toNat * 4) [.int .i64 x15, .int .i64 x16, .int .i64 x17, .int .i64 x18]).bind fun H25 =>
    ck ((0 : Int) ≤ (w64 (v3 + v6)) ∧ (w64 (v3 + v6)) < (v1.len : Int)) (
    (H25.sts v1.b (v1.o + (w64 (v3 + v6) : Int).toNat * 4) [.int .i64 x20, .int .i64 x21, .int .i64 x22, .int .i64 x23]).bind fun H27 =>
    kt0 v1 v2 v3 v4 v6 H27)))))
  else
    (some ((), p11.2))))
noncomputable def r124_j2 (app : App) (kt0 : Sl → Int → Int → AV → Int → Hp → Option (Unit × Hp)) (v1 : Sl) (v2 : Int) (v3 : Int) (v4 : AV) (v5 : Int) (v6 : Int) (v7 : Bool) (H : Hp) : Option (Unit × Hp) :=
  if v7 = true then
    (r124_j1 app kt0 v1 v2 v3 v4 v5 (w64 (v6 + 1)) H)
  else
    (r124_j1 app kt0 v1 v2 v3 v4 v5 v6 H)
noncomputable def r124_l0 (app : App) : Nat → Sl → Int → Int → AV → Int → Hp → Option (Unit × Hp)
  | 0, _, _, _, _, _, _ => none
  | k_ + 1, v1, v2, v3, v4, v5, H => if v2 ≤ (w64 ((w64 (2 * v5)) + 1)) then
    (some ((), H))
  else
    (if (w64 ((w64 ((w64 (2 * v5)) + 1)) + 1)) < v2 then
      (ck ((0 : Int) ≤ (w64 (v3 + (w64 ((w64 (2 * v5)) + 1)))) ∧ (w64 (v3 + (w64 ((w64 (2 * v5)) + 1)))) < (v1.len : Int)) (
      (H.ldI .i64 v1.b (v1.o + (w64 (v3 + (w64 ((w64 (2 * v5)) + 1))) : Int).toNat * 4)).bind fun x4 =>
      (H.ldI .i64 v1.b ((v1.o + (w64 (v3 + (w64 ((w64 (2 * v5)) + 1))) : Int).toNat * 4) + 1)).bind fun x5 =>
      (H.ldI .i64 v1.b ((v1.o + (w64 (v3 + (w64 ((w64 (2 * v5)) + 1))) : Int).toNat * 4) + 2)).bind fun x6 =>
      (H.ldI .i64 v1.b ((v1.o + (w64 (v3 + (w64 ((w64 (2 * v5)) + 1))) : Int).toNat * 4) + 3)).bind fun x7 =>
      ck ((0 : Int) ≤ (w64 ((w64 (v3 + (w64 ((w64 (2 * v5)) + 1)))) + 1)) ∧ (w64 ((w64 (v3 + (w64 ((w64 (2 * v5)) + 1)))) + 1)) < (v1.len : Int)) (
      (H.ldI .i64 v1.b (v1.o + (w64 ((w64 (v3 + (w64 ((w64 (2 * v5)) + 1)))) + 1) : Int).toNat * 4)).bind fun x9 =>
      (H.ldI .i64 v1.b ((v1.o + (w64 ((w64 (v3 + (w64 ((w64 (2 * v5)) + 1)))) + 1) : Int).toNat * 4) + 1)).bind fun x10 =>
      (H.ldI .i64 v1.b ((v1.o + (w64 ((w64 (v3 + (w64 ((w64 (2 * v5)) + 1)))) + 1) : Int).toNat * 4) + 2)).bind fun x11 =>
      (H.ldI .i64 v1.b ((v1.o + (w64 ((w64 (v3 + (w64 ((w64 (2 * v5)) + 1)))) + 1) : Int).toNat * 4) + 3)).bind fun x12 =>
      (callv app v4 [.agg [.int .i64 x4, .int .i64 x5, .int .i64 x6, .int .i64 x7], .agg [.int .i64 x9, .int .i64 x10, .int .i64 x11, .int .i64 x12]] H).bind fun p13 =>
      (p13.1.asI .i64).bind fun x14 =>
      r124_j2 app (fun v1_ v2_ v3_ v4_ v5_ H_ => r124_l0 app k_ v1_ v2_ v3_ v4_ v5_ H_) v1 v2 v3 v4 v5 (w64 ((w64 (2 * v5)) + 1)) (decide (x14 < 0)) p13.2)))
    else
      (r124_j2 app (fun v1_ v2_ v3_ v4_ v5_ H_ => r124_l0 app k_ v1_ v2_ v3_ v4_ v5_ H_) v1 v2 v3 v4 v5 (w64 ((w64 (2 * v5)) + 1)) false H))
noncomputable def r124 (app : App) (a0 : Sl) (a1 : Int) (a2 : Int) (a3 : Int) (a4 : AV) (H : Hp) : Option (Unit × Hp) :=
  r124_l0 app FUEL a0 a2 a3 a4 a1 H
/- 115 slices.heapSortCmpFunc[congou/cuts.Point] -/
def ret115 : Unit → AV := fun _ => .tup []
noncomputable def r115_l1 (app : App) : Nat → Sl → AV → Int → Int → Int → Hp → Option (Unit × Hp)
  | 0, _, _, _, _, _, _ => none
  | k_ + 1, v1, v2, v3, v4, v5, H => if 0 ≤ v5 then
    (ck ((0 : Int) ≤ (w64 (v3 + v5)) ∧ (w64 (v3 + v5)) < (v1.len : Int)) (
    (H.ldI .i64 v1.b (v1.o + (w64 (v3 + v5) : Int).toNat * 4)).bind fun x3 =>
    (H.ldI .i64 v1.b ((v1.o + (w64 (v3 + v5) : Int).toNat * 4) + 1)).bind fun x4 =>
    (H.ldI .i64 v1.b ((v1.o + (w64 (v3 + v5) : Int).toNat * 4) + 2)).bind fun x5 =>
    (H.ldI .i64 v1.b ((v1.o + (w64 (v3 + v5) : Int).toNat * 4) + 3)).bind fun x6 =>
    ck ((0 : Int) ≤ v3 ∧ v3 < (v1.len : Int)) (
    (H.ldI .i64 v1.b (v1.o + (v3 : Int).toNat * 4)).bind fun x8 =>
    (H.ldI .i64 v1.b ((v1.o + (v3 : Int).toNat * 4) + 1)).bind fun x9 =>
    (H.ldI .i64 v1.b ((v1.o + (v3 : Int).toNat * 4) + 2)).bind fun x10 =>
    (H.ldI .i64 v1.b ((v1.o + (v3 : Int).toNat * 4) + 3)).bind fun x11 =>
    ck ((0 : Int) ≤ v3 ∧ v3 < (v1.len : Int)) (
    (H.sts v1.b (v1.o + (v3 : Int).toNat * 4) [.int .i64 x3, .int .i64 x4, .int .i64 x5, .int .i64 x6]).bind fun H13 =>
    ck ((0 : Int) ≤ (w64 (v3 + v5)) ∧ (w64 (v3 + v5)) < (v1.len : Int)) (
    (H13.sts v1.b (v1.o + (w64 (v3 + v5) : Int).toNat * 4) [.int .i64 x8, .int .i64 x9, .int .i64 x10, .int .i64 x11]).bind fun H15 =>
    (r124 app v1 v4 v5 v3 v2 H15).bind fun p16 =>
    r115_l1 app k_ v1 v2 v3 v4 (w64 (v5 - 1)) p16.2)))))
  else
    (some ((), H))
noncomputable def r115_l0 (app : App) : Nat → Sl → AV → Int → Int → Int → Int → Hp → Option (Unit × Hp)
  | 0, _, _, _, _, _, _, _ => none
  | k_ + 1, v1, v2, v3, v4, v5, v6, H => if 0 ≤ v6 then
    ((r124 app v1 v6 v5 v3 v2 H).bind fun p2 =>
    r115_l0 app k_ v1 v2 v3 v4 v5 (w64 (v6 - 1)) p2.2)
  else
    (r115_l1 app FUEL v1 v2 v3 v4 (w64 (v5 - 1)) H)
noncomputable def r115 (app : App) (a0 : Sl) (a1 : Int) (a2 : Int) (a3 : AV) (H : Hp) : Option (Unit × Hp) :=
  r115_l0 app FUEL a0 a3 a1 0 (w64 (a2 - a1)) (w64 (Int.tdiv (w64 ((w64 (a2 - a1)) - 1)) 2)) H
/- 122 math/bits.Len32 -/
def ret122 : Int → AV := fun r => .int .i64 r
noncomputable def r122_j0 (v1 : Int) (v2 : Int) (H : Hp) : Option (Int × Hp) :=
  ck ((0 : Int) ≤ (IntKind.wrap .u8 (v1)) ∧ (IntKind.wrap .u8 (v1)) < ((strC Try.f122 [1, 1, 1, 0] 3 0).size : Int)) (
  some (w64 (v2 + (w64 (bt (strC Try.f122 [1, 1, 1, 0] 3 0) (IntKind.wrap .u8 (v1))))), H))
noncomputable def r122_j1 (v1 : Int) (v2 : Int) (H : Hp) : Option (Int × Hp) :=
  if 256 ≤ v1 then
    (r122_j0 (shrOf .u32 v1 8) (w64 (v2 + 8)) H)
  else
    (r122_j0 v1 v2 H)
noncomputable def r122 (a0 : Int) (H : Hp) : Option (Int × Hp) :=
  if 65536 ≤ a0 then
    (r122_j1 (shrOf .u32 a0 16) 16 H)
  else
    (r122_j1 a0 0 H)
/- 123 math/bits.Len64 -/
def ret123 : Int → AV := fun r => .int .i64 r
noncomputable def r123_j0 (v1 : Int) (v2 : Int) (H : Hp) : Option (Int × Hp) :=
  ck ((0 : Int) ≤ (IntKind.wrap .u8 (v1)) ∧ (IntKind.wrap .u8 (v1)) < ((strC Try.f123 [1, 1, 1, 1, 0] 3 0).size : Int)) (
  some (w64 (v2 + (w64 (bt (strC Try.f123 [1, 1, 1, 1, 0] 3 0) (IntKind.wrap .u8 (v1))))), H))
noncomputable def r123_j1 (v1 : Int) (v2 : Int) (H : Hp) : Option (Int × Hp) :=
  if 256 ≤ v1 then
    (r123_j0 (shrOf .u64 v1 8) (w64 (v2 + 8)) H)
  else
    (r123_j0 v1 v2 H)
noncomputable def r123_j2 (v1 : Int) (v2 : Int) (H : Hp) : Option (Int × Hp) :=
  if 65536 ≤ v1 then
    (r123_j1 (shrOf .u64 v1 16) (w64 (v2 + 16)) H)
  else
    (r123_j1 v1 v2 H)
noncomputable def r123 (a0 : Int) (H : Hp) : Option (Int × Hp) :=
  if 4294967296 ≤ a0 then
    (r123_j2 (shrOf .u64 a0 32) 32 H)
  else
    (r123_j2 a0 0 H)
/- 109 math/bits.Len -/
def ret109 : Int → AV := fun r => .int .i64 r
noncomputable def r109 (a0 : Int) (H : Hp) : Option (Int × Hp) :=
  (r123 a0 H).bind fun p1 =>
  some (p1.1, p1.2)
/- 125 slices.nextPowerOfTwo -/
def ret125 : Int → AV := fun r => .int .u64 r
noncomputable def r125 (a0 : Int) (H : Hp) : Option (Int × Hp) :=
  (r109 (IntKind.wrap .u64 (a0)) H).bind fun p1 =>
  ck (¬ p1.1 < 0) (
  some (shlOf .u64 1 p1.1, p1.2))
/- 126 (*slices.xorshift).Next -/
def ret126 : Int → AV := fun r => .int .u64 r
noncomputable def r126 (a0b : Nat) (a0o : Nat) (H : Hp) : Option (Int × Hp) :=
  (H.ldI .u64 a0b a0o).bind fun x1 =>
  (H.ldI .u64 a0b a0o).bind fun x2 =>
  (H.st a0b a0o (.int .u64 (bitsOf .xor .u64 x1 (shlOf .u64 x2 13)))).bind fun H3 =>
  (H3.ldI .u64 a0b a0o).bind fun x4 =>
  (H3.ldI .u64 a0b a0o).bind fun x5 =>
  (H3.st a0b a0o (.int .u64 (bitsOf .xor .u64 x4 (shrOf .u64 x5 7)))).bind fun H6 =>
  (H6.ldI .u64 a0b a0o).bind fun x7 =>
  (H6.ldI .u64 a0b a0o).bind fun x8 =>
  (H6.st a0b a0o (.int .u64 (bitsOf .xor .u64 x7 (shlOf .u64 x8 17)))).bind fun H9 =>
  (H9.ldI .u64 a0b a0o).bind fun x10 =>
  some (x10, H9)
/- 116 slices.breakPatternsCmpFunc[congou/cuts.Point] -/
def ret116 : Unit → AV := fun _ => .tup []
noncomputable def r116_j1 (kt0 : Sl → Int → Int → Nat → Int → Int → Hp → Option (Unit × Hp)) (v1 : Sl) (v2 : Int) (v3 : Int) (v4 : Nat) (v5 : Int) (v6 : Int) (v7 : Int) (H : Hp) : Option (Unit × Hp) :=
  ck ((0 : Int) ≤ (w64 (v2 + v7)) ∧ (w64 (v2 + v7)) < (v1.len : Int)) (
  (H.ldI .i64 v1.b (v1.o + (w64 (v2 + v7) : Int).toNat * 4)).bind fun x2 =>
  (H.ldI .i64 v1.b ((v1.o + (w64 (v2 + v7) : Int).toNat * 4) + 1)).bind fun x3 =>
  (H.ldI .i64 v1.b ((v1.o + (w64 (v2 + v7) : Int).toNat * 4) + 2)).bind fun x4 =>
  (H.ldI .i64 v1.b ((v1.o + (w64 (v2 + v7) : Int).toNat * 4) + 3)).bind fun x5 =>
  ck ((0 : Int) ≤ v6 ∧ v6 < (v1.len : Int)) (
  (H.ldI .i64 v1.b (v1.o + (v6 : Int).toNat * 4)).bind fun x7 =>
  (H.ldI .i64 v1.b ((v1.o + (v6 : Int).toNat * 4) + 1)).bind fun x8 =>
  (H.ldI .i64 v1.b ((v1.o + (v6 : Int).toNat * 4) + 2)).bind fun x9 =>
  (H.ldI .i64 v1.b ((v1.o + (v6 : Int).toNat * 4) + 3)).bind fun x10 =>
  ck ((0 : Int) ≤ v6 ∧ v6 < (v1.len : Int)) (
  (H.sts v1.b (v1.o + (v6 : Int).toNat * 4) [.int .i64 x2, .int .i64 x3, .int .i64 x4, .int .i64 x5]).bind fun H12 =>
  ck ((0 : Int) ≤ (w64 (v2 + v7)) ∧ (w64 (v2 + v7)) < (v1.len : Int)) (
  (H12.sts v1.b (v1.o + (w64 (v2 + v7) : Int).toNat * 4) [.int .i64 x7, .int .i64 x8, .int .i64 x9, .int .i64 x10]).bind fun H14 =>
  kt0 v1 v2 v3 v4 v5 (w64 (v6 + 1)) H14))))
noncomputable def r116_l0 : Nat → Sl → Int → Int → Nat → Int → Int → Hp → Option (Unit × Hp)
  | 0, _, _, _, _, _, _, _ => none
  | k_ + 1, v1, v2, v3, v4, v5, v6, H => if v6 ≤ (w64 ((w64 (v2 + (w64 ((w64 (Int.tdiv v3 4)) * 2)))) + 1)) then
    ((r126 v4 0 H).bind fun p2 =>
    if v3 ≤ (w64 (bitsOf .and .u64 p2.1 (IntKind.wrap .u64 (v5 - 1)))) then
      (r116_j1 (fun v1_ v2_ v3_ v4_ v5_ v6_ H_ => r116_l0 k_ v1_ v2_ v3_ v4_ v5_ v6_ H_) v1 v2 v3 v4 v5 v6 (w64 ((w64 (bitsOf .and .u64 p2.1 (IntKind.wrap .u64 (v5 - 1)))) - v3)) p2.2)
    else
      (r116_j1 (fun v1_ v2_ v3_ v4_ v5_ v6_ H_ => r116_l0 k_ v1_ v2_ v3_ v4_ v5_ v6_ H_) v1 v2 v3 v4 v5 v6 (w64 (bitsOf .and .u64 p2.1 (IntKind.wrap .u64 (v5 - 1)))) p2.2))
  else
    (some ((), H))
noncomputable def r116 (a0 : Sl) (a1 : Int) (a2 : Int) (a3 : AV) (H : Hp) : Option (Unit × Hp) :=
  if 8 ≤ (w64 (a2 - a1)) then
    (((H.push (.cells [.int .u64 0] false)).st H.n 0 (.int .u64 (IntKind.wrap .u64 (w64 (a2 - a1))))).bind fun H2 =>
    (r125 (w64 (a2 - a1)) H2).bind fun p3 =>
    r116_l0 FUEL a0 a1 (w64 (a2 - a1)) H.n p3.1 (w64 ((w64 (a1 + (w64 ((w64 (Int.tdiv (w64 (a2 - a1)) 4)) * 2)))) - 1)) p3.2)
  else
    (some ((), H))
/- 129 slices.order2CmpFunc[congou/cuts.Point] -/
def ret129 : Int × Int → AV := fun r => .tup [.int .i64 r.1, .int .i64 r.2]
noncomputable def r129 (app : App) (a0 : Sl) (a1 : Int) (a2 : Int) (a3b : Nat) (a3o : Nat) (a4 : AV) (H : Hp) : Option ((Int × Int) × Hp) :=
  ck ((0 : Int) ≤ a2 ∧ a2 < (a0.len : Int)) (
  (H.ldI .i64 a0.b (a0.o + (a2 : Int).toNat * 4)).bind fun x2 =>
  (H.ldI .i64 a0.b ((a0.o + (a2 : Int).toNat * 4) + 1)).bind fun x3 =>
  (H.ldI .i64 a0.b ((a0.o + (a2 : Int).toNat * 4) + 2)).bind fun x4 =>
  (H.ldI .i64 a0.b ((a0.o + (a2 : Int).toNat * 4) + 3)).bind fun x5 =>
  ck ((0 : Int) ≤ a1 ∧ a1 < (a0.len : Int)) (
  (H.ldI .i64 a0.b (a0.o + (a1 : Int).toNat * 4)).bind fun x7 =>
  (H.ldI .i64 a0.b ((a0.o + (a1 : Int).toNat * 4) + 1)).bind fun x8 =>
  (H.ldI .i64 a0.b ((a0.o + (a1 : Int).toNat * 4) + 2)).bind fun x9 =>
  (H.ldI .i64 a0.b ((a0.o + (a1 : Int).toNat * 4) + 3)).bind fun x10 =>
  (callv app a4 [.agg [.int .i64 x2, .int .i64 x3, .int .i64 x4, .int .i64 x5], .agg [.int .i64 x7, .int .i64 x8, .int .i64 x9, .int .i64 x10]] H).bind fun p11 =>
  (p11.1.asI .i64).bind fun x12 =>
  if x12 < 0 then
    ((p11.2.ldI .i64 a3b a3o).bind fun x14 =>
    (p11.2.st a3b a3o (.int .i64 (w64 (x14 + 1)))).bind fun H15 =>
    some ((a2, a1), H15))
  else
    (some ((a1, a2), p11.2))))
/- 128 slices.medianCmpFunc[congou/cuts.Point] -/
def ret128 : Int → AV := fun r => .int .i64 r
noncomputable def r128 (app : App) (a0 : Sl) (a1 : Int) (a2 : Int) (a3 : Int) (a4b : Nat) (a4o : Nat) (a5 : AV) (H : Hp) : Option (Int × Hp) :=
  (r129 app a0 a1 a2 a4b a4o a5 H).bind fun p1 =>
  (r129 app a0 p1.1.2 a3 a4b a4o a5 p1.2).bind fun p2 =>
  (r129 app a0 p1.1.1 p2.1.1 a4b a4o a5 p2.2).bind fun p3 =>
  some (p3.1.2, p3.2)
/- 127 slices.medianAdjacentCmpFunc[congou/cuts.Point] -/
def ret127 : Int → AV := fun r => .int .i64 r
noncomputable def r127 (app : App) (a0 : Sl) (a1 : Int) (a2b : Nat) (a2o : Nat) (a3 : AV) (H : Hp) : Option (Int × Hp) :=
  (r128 app a0 (w64 (a1 - 1)) a1 (w64 (a1 + 1)) a2b a2o a3 H).bind fun p1 =>
  some (p1.1, p1.2)
/- 117 slices.choosePivotCmpFunc[congou/cuts.Point] -/
def ret117 : Int × Int → AV := fun r => .tup [.int .i64 r.1, .int .i64 r.2]
noncomputable def r117_j1 (app : App) (v1 : Nat) (v2 : Int) (H : Hp) : Option ((Int × Int) × Hp) :=
  (H.ldI .i64 v1 0).bind fun x1 =>
  if x1 = 0 then
    (some ((v2, 1), H))
  else
    (if x1 = 12 then
      (some ((v2, 2), H))
    else
      (some ((v2, 0), H)))
noncomputable def r117_j0 (app : App) (v1 : Sl) (v2 : AV) (v3 : Nat) (v4 : Int) (v5 : Int) (v6 : Int) (H : Hp) : Option ((Int × Int) × Hp) :=
  (r128 app v1 v4 v5 v6 v3 0 v2 H).bind fun p1 =>
  r117_j1 app v3 p1.1 p1.2
noncomputable def r117 (app : App) (a0 : Sl) (a1 : Int) (a2 : Int) (a3 : AV) (H : Hp) : Option ((Int × Int) × Hp) :=
  lt (H.push (.cells [.int .i64 0] false)) fun H1 =>
  if 8 ≤ (w64 (a2 - a1)) then
    (if 50 ≤ (w64 (a2 - a1)) then
      ((r127 app a0 (w64 (a1 + (w64 ((w64 (Int.tdiv (w64 (a2 - a1)) 4)) * 1)))) H.n 0 a3 H1).bind fun p4 =>
      (r127 app a0 (w64 (a1 + (w64 ((w64 (Int.tdiv (w64 (a2 - a1)) 4)) * 2)))) H.n 0 a3 p4.2).bind fun p5 =>
      (r127 app a0 (w64 (a1 + (w64 ((w64 (Int.tdiv (w64 (a2 - a1)) 4)) * 3)))) H.n 0 a3 p5.2).bind fun p6 =>
      r117_j0 app a0 a3 H.n p4.1 p5.1 p6.1 p6.2)
    else
      (r117_j0 app a0 a3 H.n (w64 (a1 + (w64 ((w64 (Int.tdiv (w64 (a2 - a1)) 4)) * 1)))) (w64 (a1 + (w64 ((w64 (Int.tdiv (w64 (a2 - a1)) 4)) * 2)))) (w64 (a1 + (w64 ((w64 (Int.tdiv (w64 (a2 - a1)) 4)) * 3)))) H1))
  else
    (r117_j1 app H.n (w64 (a1 + (w64 ((w64 (Int.tdiv (w64 (a2 - a1)) 4)) * 2)))) H1)
/- 118 slices.reverseRangeCmpFunc[congou/cuts.Point] -/
def ret118 : Unit → AV := fun _ => .tup []
noncomputable def r118_l0 : Nat → Sl → Int → Int → Hp → Option (Unit × Hp)
  | 0, _, _, _, _ => none
  | k_ + 1, v1, v2, v3, H => if v2 < v3 then
    (ck ((0 : Int) ≤ v3 ∧ v3 < (v1.len : Int)) (
    (H.ldI .i64 v1.b (v1.o + (v3 : Int).toNat * 4)).bind fun x3 =>
    (H.ldI .i64 v1.b ((v1.o + (v3 : Int).toNat * 4) + 1)).bind fun x4 =>
    (H.ldI .i64 v1.b ((v1.o + (v3 : Int).toNat * 4) + 2)).bind fun x5 =>
    (H.ldI .i64 v1.b ((v1.o + (v3 : Int).toNat * 4) + 3)).bind fun x6 =>
    ck ((0 : Int) ≤ v2 ∧ v2 < (v1.len : Int)) (
    (H.ldI .i64 v1.b (v1.o + (v2 : Int).toNat * 4)).bind fun x8 =>
    (H.ldI .i64 v1.b ((v1.o + (v2 : Int).toNat * 4) + 1)).bind fun x9 =>
    (H.ldI .i64 v1.b ((v1.o + (v2 : Int).toNat * 4) + 2)).bind fun x10 =>
    (H.ldI .i64 v1.b ((v1.o + (v2 : Int).toNat * 4) + 3)).bind fun x11 =>
    ck ((0 : Int) ≤ v2 ∧ v2 < (v1.len : Int)) (
    (H.sts v1.b (v1.o + (v2 : Int).toNat * 4) [.int .i64 x3, .int .i64 x4, .int .i64 x5, .int .i64 x6]).bind fun H13 =>
    ck ((0 : Int) ≤ v3 ∧ v3 < (v1.len : Int)) (
    (H13.sts v1.b (v1.o + (v3 : Int).toNat * 4) [.int .i64 x8, .int .i64 x9, .int .i64 x10, .int .i64 x11]).bind fun H15 =>
    r118_l0 k_ v1 (w64 (v2 + 1)) (w64 (v3 - 1)) H15)))))
  else
    (some ((), H))
noncomputable def r118 (a0 : Sl) (a1 : Int) (a2 : Int) (a3 : AV) (H : Hp) : Option (Unit × Hp) :=
  r118_l0 FUEL a0 a1 (w64 (a2 - 1)) H
end Go.Lt.P2
