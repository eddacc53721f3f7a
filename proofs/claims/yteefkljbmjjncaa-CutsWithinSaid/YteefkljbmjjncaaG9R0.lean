/- PRINTED BY A PROGRAM OF OURS: what each function that 'CutsWithin' reaches computes on the abstract heap, and that the translated code does just that. Nothing is asked of the input. -/
import Derived.Test.YteefkljbmjjncaaG9T
set_option linter.unusedVariables false
set_option linter.unusedSimpArgs false
set_option maxRecDepth 100000
set_option maxHeartbeats 4000000
namespace Go.Lt.P2
open Go Go.Lt Go.Proofs
/- 18 congou/congoulaw02.Of -/
def ret18 : Sl → AV := fun r => .sl r
noncomputable def r18_l0 : Nat → Sl → Sl → Int → Int → Hp → Option (Sl × Hp)
  | 0, _, _, _, _, _ => none
  | k_ + 1, v1, v2, v3, v4, H => if v4 < v3 then
    (ck ((0 : Int) ≤ v4 ∧ v4 < (v2.len : Int)) (
    (H.ldI .i64 v2.b (v2.o + (v4 : Int).toNat * 3)).bind fun x3 =>
    (H.ldI .i64 v2.b ((v2.o + (v4 : Int).toNat * 3) + 1)).bind fun x4 =>
    (H.ldI .i64 v2.b ((v2.o + (v4 : Int).toNat * 3) + 2)).bind fun x5 =>
    ((H.push (.cells [.int .i64 0, .int .i64 0, .int .i64 0] false)).sts H.n 0 [.int .i64 x3, .int .i64 x4, .int .i64 x5]).bind fun H6 =>
    if v4 < 9 then
      ((H6.ldI .i64 H.n (0 + 0)).bind fun x8 =>
      (H6.ldI .i64 H.n (0 + 1)).bind fun x9 =>
      (H6.ldI .i64 H.n (0 + 2)).bind fun x10 =>
      (H6.apN 3 v1 [.int .i64 x8, .int .i64 x9, .int .i64 x10] 1).bind fun x11 =>
      r18_l0 k_ x11.1 v2 v3 (w64 (v4 + 1)) x11.2)
    else
      (r18_l0 k_ v1 v2 v3 (w64 (v4 + 1)) H6)))
  else
    (some (v1, H))
noncomputable def r18 (a0 : Sl) (H : Hp) : Option (Sl × Hp) :=
  r18_l0 FUEL ⟨true, 0, 0, 0, 0, 0⟩ a0 (a0.len : Int) 0 H
/- 19 congou/congouref02.Plate -/
def ret19 : Bool → AV := fun r => .bool r
noncomputable def r19_j2 (kt1 : Sl → Sl → Int → Int → Hp → Option (Bool × Hp)) (v1 : Sl) (v2 : Sl) (v3 : Int) (v4 : Int) (v5 : Bool) (H : Hp) : Option (Bool × Hp) :=
  if v5 = true then
    (some (false, H))
  else
    (kt1 v1 v2 v3 (w64 (v4 + 1)) H)
noncomputable def r19_l5 (kt4 : Sl → Nat → Int → Sl → Int → Int → Hp → Option (Bool × Hp)) : Nat → Sl → Nat → Int → Bool → Sl → Int → Int → Sl → Int → Int → Hp → Option (Bool × Hp)
  | 0, _, _, _, _, _, _, _, _, _, _, _ => none
  | k_ + 1, v1, v2, v3, v4, v5, v6, v7, v8, v9, v10, H => if v10 < v9 then
    (ck ((0 : Int) ≤ v10 ∧ v10 < (v8.len : Int)) (
    (H.ldI .i64 v8.b (v8.o + (v10 : Int).toNat * 3)).bind fun x3 =>
    (H.ldI .i64 v8.b ((v8.o + (v10 : Int).toNat * 3) + 1)).bind fun x4 =>
    (H.ldI .i64 v8.b ((v8.o + (v10 : Int).toNat * 3) + 2)).bind fun x5 =>
    ((H.push (.cells [.int .i64 0, .int .i64 0, .int .i64 0] false)).sts H.n 0 [.int .i64 x3, .int .i64 x4, .int .i64 x5]).bind fun H6 =>
    if v4 = true then
      ((H6.ldI .i64 H.n (0 + 1)).bind fun x8 =>
      (H6.ldI .i64 v2 (0 + 0)).bind fun x9 =>
      (H6.ldI .i64 H.n (0 + 0)).bind fun x10 =>
      (H6.ldI .i64 v2 (0 + 1)).bind fun x11 =>
      r19_l5 kt4 k_ v1 v2 v3 (decide ((w64 (v3 * (w64 ((w64 (x8 * x9)) - (w64 (x10 * x11)))))) ≤ 0)) v5 v6 v7 v8 v9 (w64 (v10 + 1)) H6)
    else
      (r19_l5 kt4 k_ v1 v2 v3 false v5 v6 v7 v8 v9 (w64 (v10 + 1)) H6)))
  else
    (if v4 = true then
      (some (false, H))
    else
      (kt4 v1 v2 (w64 (v3 + 2)) v5 v6 v7 H))
noncomputable def r19_l4 (kt3 : Sl → Sl → Int → Int → Hp → Option (Bool × Hp)) : Nat → Sl → Nat → Int → Sl → Int → Int → Hp → Option (Bool × Hp)
  | 0, _, _, _, _, _, _, _ => none
  | k_ + 1, v1, v2, v3, v4, v5, v6, H => if v3 ≤ 1 then
    (r19_l5 (fun v1_ v2_ v3_ v4_ v5_ v6_ H_ => r19_l4 kt3 k_ v1_ v2_ v3_ v4_ v5_ v6_ H_) FUEL v1 v2 v3 true v4 v5 v6 v1 (v1.len : Int) 0 H)
  else
    (kt3 v1 v4 v5 (w64 (v6 + 1)) H)
noncomputable def r19_l3 : Nat → Sl → Sl → Int → Int → Hp → Option (Bool × Hp)
  | 0, _, _, _, _, _ => none
  | k_ + 1, v1, v2, v3, v4, H => if v4 < v3 then
    (ck ((0 : Int) ≤ v4 ∧ v4 < (v2.len : Int)) (
    (H.ldI .i64 v2.b (v2.o + (v4 : Int).toNat * 3)).bind fun x3 =>
    (H.ldI .i64 v2.b ((v2.o + (v4 : Int).toNat * 3) + 1)).bind fun x4 =>
    (H.ldI .i64 v2.b ((v2.o + (v4 : Int).toNat * 3) + 2)).bind fun x5 =>
    ((H.push (.cells [.int .i64 0, .int .i64 0, .int .i64 0] false)).sts H.n 0 [.int .i64 x3, .int .i64 x4, .int .i64 x5]).bind fun H6 =>
    r19_l4 (fun v1_ v2_ v3_ v4_ H_ => r19_l3 k_ v1_ v2_ v3_ v4_ H_) FUEL v1 H.n (-1) v2 v3 v4 H6))
  else
    (some (true, H))
noncomputable def r19_l1 : Nat → Sl → Sl → Int → Int → Hp → Option (Bool × Hp)
  | 0, _, _, _, _, _ => none
  | k_ + 1, v1, v2, v3, v4, H => if v4 < v3 then
    (ck ((0 : Int) ≤ v4 ∧ v4 < (v2.len : Int)) (
    (H.ldI .i64 v2.b (v2.o + (v4 : Int).toNat * 3)).bind fun x3 =>
    (H.ldI .i64 v2.b ((v2.o + (v4 : Int).toNat * 3) + 1)).bind fun x4 =>
    (H.ldI .i64 v2.b ((v2.o + (v4 : Int).toNat * 3) + 2)).bind fun x5 =>
    ((H.push (.cells [.int .i64 0, .int .i64 0, .int .i64 0] false)).sts H.n 0 [.int .i64 x3, .int .i64 x4, .int .i64 x5]).bind fun H6 =>
    (H6.ldI .i64 H.n (0 + 0)).bind fun x7 =>
    if x7 < (-4) then
      (r19_j2 (fun v1_ v2_ v3_ v4_ H_ => r19_l1 k_ v1_ v2_ v3_ v4_ H_) v1 v2 v3 v4 true H6)
    else
      ((H6.ldI .i64 H.n (0 + 0)).bind fun x9 =>
      if 4 < x9 then
        (r19_j2 (fun v1_ v2_ v3_ v4_ H_ => r19_l1 k_ v1_ v2_ v3_ v4_ H_) v1 v2 v3 v4 true H6)
      else
        ((H6.ldI .i64 H.n (0 + 1)).bind fun x11 =>
        if x11 < (-4) then
          (r19_j2 (fun v1_ v2_ v3_ v4_ H_ => r19_l1 k_ v1_ v2_ v3_ v4_ H_) v1 v2 v3 v4 true H6)
        else
          ((H6.ldI .i64 H.n (0 + 1)).bind fun x13 =>
          if 4 < x13 then
            (r19_j2 (fun v1_ v2_ v3_ v4_ H_ => r19_l1 k_ v1_ v2_ v3_ v4_ H_) v1 v2 v3 v4 true H6)
          else
            ((H6.ldI .i64 H.n (0 + 0)).bind fun x15 =>
            if x15 = 0 then
              ((H6.ldI .i64 H.n (0 + 1)).bind fun x17 =>
              if x17 = 0 then
                (r19_j2 (fun v1_ v2_ v3_ v4_ H_ => r19_l1 k_ v1_ v2_ v3_ v4_ H_) v1 v2 v3 v4 true H6)
              else
                ((H6.ldI .i64 H.n (0 + 2)).bind fun x19 =>
                if x19 < (-40) then
                  (r19_j2 (fun v1_ v2_ v3_ v4_ H_ => r19_l1 k_ v1_ v2_ v3_ v4_ H_) v1 v2 v3 v4 true H6)
                else
                  ((H6.ldI .i64 H.n (0 + 2)).bind fun x21 =>
                  r19_j2 (fun v1_ v2_ v3_ v4_ H_ => r19_l1 k_ v1_ v2_ v3_ v4_ H_) v1 v2 v3 v4 (decide (40 < x21)) H6)))
            else
              ((H6.ldI .i64 H.n (0 + 2)).bind fun x22 =>
              if x22 < (-40) then
                (r19_j2 (fun v1_ v2_ v3_ v4_ H_ => r19_l1 k_ v1_ v2_ v3_ v4_ H_) v1 v2 v3 v4 true H6)
              else
                ((H6.ldI .i64 H.n (0 + 2)).bind fun x24 =>
                r19_j2 (fun v1_ v2_ v3_ v4_ H_ => r19_l1 k_ v1_ v2_ v3_ v4_ H_) v1 v2 v3 v4 (decide (40 < x24)) H6))))))))
  else
    (r19_l3 FUEL v1 v1 (v1.len : Int) 0 H)
noncomputable def r19_j0 (v1 : Sl) (v2 : Bool) (H : Hp) : Option (Bool × Hp) :=
  if v2 = true then
    (some (false, H))
  else
    (r19_l1 FUEL v1 v1 (v1.len : Int) 0 H)
noncomputable def r19 (a0 : Sl) (H : Hp) : Option (Bool × Hp) :=
  if (a0.len : Int) < 3 then
    (r19_j0 a0 true H)
  else
    (r19_j0 a0 (decide (6 < (a0.len : Int))) H)
/- 113 slices.IndexFunc[[]int,int] -/
def ret113 : Int → AV := fun r => .int .i64 r
noncomputable def r113_l0 (app : App) : Nat → Sl → AV → Int → Int → Hp → Option (Int × Hp)
  | 0, _, _, _, _, _ => none
  | k_ + 1, v1, v2, v3, v4, H => if v4 < v3 then
    (ck ((0 : Int) ≤ v4 ∧ v4 < (v1.len : Int)) (
    (H.ldI .i64 v1.b (v1.o + (v4 : Int).toNat * 1)).bind fun x3 =>
    (callv app v2 [.int .i64 x3] H).bind fun p4 =>
    (p4.1.asB).bind fun x5 =>
    if x5 = true then
      (some (v4, p4.2))
    else
      (r113_l0 app k_ v1 v2 v3 (w64 (v4 + 1)) p4.2)))
  else
    (some ((-1), H))
noncomputable def r113 (app : App) (a0 : Sl) (a1 : AV) (H : Hp) : Option (Int × Hp) :=
  r113_l0 app FUEL a0 a1 (a0.len : Int) 0 H
/- 105 slices.ContainsFunc[[]int,int] -/
def ret105 : Bool → AV := fun r => .bool r
noncomputable def r105 (app : App) (a0 : Sl) (a1 : AV) (H : Hp) : Option (Bool × Hp) :=
  (r113 app a0 a1 H).bind fun p1 =>
  some ((decide (0 ≤ p1.1)), p1.2)
/- 79 congou/cuts.within -/
def ret79 : Bool → AV := fun r => .bool r
noncomputable def r79 (app : App) (a0 : Int) (a1 : Sl) (H : Hp) : Option (Bool × Hp) :=
  lt (H.push (.cells [.int .i64 a0] false)) fun H1 =>
  (r105 app a1 (.fn 106 [] [.ptr H.n 0]) H1).bind fun p2 =>
  some ((!p2.1), p2.2)
/- 111 slices.IndexFunc[congou/cuts.plate,congou/cuts.Side] -/
def ret111 : Int → AV := fun r => .int .i64 r
noncomputable def r111_l0 (app : App) : Nat → Sl → AV → Int → Int → Hp → Option (Int × Hp)
  | 0, _, _, _, _, _ => none
  | k_ + 1, v1, v2, v3, v4, H => if v4 < v3 then
    (ck ((0 : Int) ≤ v4 ∧ v4 < (v1.len : Int)) (
    (H.ldI .i64 v1.b (v1.o + (v4 : Int).toNat * 3)).bind fun x3 =>
    (H.ldI .i64 v1.b ((v1.o + (v4 : Int).toNat * 3) + 1)).bind fun x4 =>
    (H.ldI .i64 v1.b ((v1.o + (v4 : Int).toNat * 3) + 2)).bind fun x5 =>
    (callv app v2 [.agg [.int .i64 x3, .int .i64 x4, .int .i64 x5]] H).bind fun p6 =>
    (p6.1.asB).bind fun x7 =>
    if x7 = true then
      (some (v4, p6.2))
    else
      (r111_l0 app k_ v1 v2 v3 (w64 (v4 + 1)) p6.2)))
  else
    (some ((-1), H))
noncomputable def r111 (app : App) (a0 : Sl) (a1 : AV) (H : Hp) : Option (Int × Hp) :=
  r111_l0 app FUEL a0 a1 (a0.len : Int) 0 H
/- 92 slices.ContainsFunc[congou/cuts.plate,congou/cuts.Side] -/
def ret92 : Bool → AV := fun r => .bool r
noncomputable def r92 (app : App) (a0 : Sl) (a1 : AV) (H : Hp) : Option (Bool × Hp) :=
  (r111 app a0 a1 H).bind fun p1 =>
  some ((decide (0 ≤ p1.1)), p1.2)
/- 63 (congou/cuts.plate).valid -/
def ret63 : Bool → AV := fun r => .bool r
noncomputable def r63_j2 (app : App) (kt1 : Sl → Sl → Int → Int → Hp → Option (Bool × Hp)) (v1 : Sl) (v2 : Sl) (v3 : Int) (v4 : Int) (v5 : Bool) (H : Hp) : Option (Bool × Hp) :=
  if v5 = true then
    (some (false, H))
  else
    (kt1 v1 v2 v3 (w64 (v4 + 1)) H)
noncomputable def r63_l4 (app : App) (kt3 : Sl → Sl → Int → Int → Hp → Option (Bool × Hp)) : Nat → Sl → Sl → Int → Int → Sl → Int → Int → Hp → Option (Bool × Hp)
  | 0, _, _, _, _, _, _, _, _ => none
  | k_ + 1, v1, v2, v3, v4, v5, v6, v7, H => if v7 < v6 then
    (ck ((0 : Int) ≤ v7 ∧ v7 < (v5.len : Int)) (
    (H.ldI .i64 v5.b (v5.o + (v7 : Int).toNat * 2)).bind fun x3 =>
    (H.ldI .i64 v5.b ((v5.o + (v7 : Int).toNat * 2) + 1)).bind fun x4 =>
    ((H.push (.cells [.int .i64 0, .int .i64 0] false)).sts H.n 0 [.int .i64 x3, .int .i64 x4]).bind fun H5 =>
    (r92 app v1 (.fn 93 [] [.ptr H.n 0]) H5).bind fun p6 =>
    if p6.1 = true then
      (r63_l4 app kt3 k_ v1 v2 v3 v4 v5 v6 (w64 (v7 + 1)) p6.2)
    else
      (some (false, p6.2))))
  else
    (kt3 v1 v2 v3 (w64 (v4 + 1)) H)
noncomputable def r63_l3 (app : App) : Nat → Sl → Sl → Int → Int → Hp → Option (Bool × Hp)
  | 0, _, _, _, _, _ => none
  | k_ + 1, v1, v2, v3, v4, H => if v4 < v3 then
    (ck ((0 : Int) ≤ v4 ∧ v4 < (v2.len : Int)) (
    (H.ldI .i64 v2.b (v2.o + (v4 : Int).toNat * 3)).bind fun x3 =>
    (H.ldI .i64 v2.b ((v2.o + (v4 : Int).toNat * 3) + 1)).bind fun x4 =>
    (H.ldI .i64 v2.b ((v2.o + (v4 : Int).toNat * 3) + 2)).bind fun x5 =>
    ((H.push (.cells [.int .i64 0, .int .i64 0, .int .i64 0] false)).sts H.n 0 [.int .i64 x3, .int .i64 x4, .int .i64 x5]).bind fun H6 =>
    (H6.ldI .i64 H.n (0 + 1)).bind fun x7 =>
    (H6.ldI .i64 H.n (0 + 0)).bind fun x8 =>
    (H6.ldI .i64 H.n (0 + 1)).bind fun x9 =>
    (H6.ldI .i64 H.n (0 + 0)).bind fun x10 =>
    lt (H6.push (.cells [.int .i64 (w64 (0 - x7)), .int .i64 x8, .int .i64 x9, .int .i64 (w64 (0 - x10))] false)) fun H11 =>
    r63_l4 app (fun v1_ v2_ v3_ v4_ H_ => r63_l3 app k_ v1_ v2_ v3_ v4_ H_) FUEL v1 v2 v3 v4 ⟨false, H6.n, 0, 2, 2, 0⟩ ((⟨false, H6.n, 0, 2, 2, 0⟩ : Sl).len : Int) 0 H11))
  else
    (some (true, H))
noncomputable def r63_l1 (app : App) : Nat → Sl → Sl → Int → Int → Hp → Option (Bool × Hp)
  | 0, _, _, _, _, _ => none
  | k_ + 1, v1, v2, v3, v4, H => if v4 < v3 then
    (ck ((0 : Int) ≤ v4 ∧ v4 < (v2.len : Int)) (
    (H.ldI .i64 v2.b (v2.o + (v4 : Int).toNat * 3)).bind fun x3 =>
    (H.ldI .i64 v2.b ((v2.o + (v4 : Int).toNat * 3) + 1)).bind fun x4 =>
    (H.ldI .i64 v2.b ((v2.o + (v4 : Int).toNat * 3) + 2)).bind fun x5 =>
    ((H.push (.cells [.int .i64 0, .int .i64 0, .int .i64 0] false)).sts H.n 0 [.int .i64 x3, .int .i64 x4, .int .i64 x5]).bind fun H6 =>
    (H6.ldI .i64 H.n (0 + 0)).bind fun x7 =>
    if x7 = 0 then
      ((H6.ldI .i64 H.n (0 + 1)).bind fun x9 =>
      if x9 = 0 then
        (r63_j2 app (fun v1_ v2_ v3_ v4_ H_ => r63_l1 app k_ v1_ v2_ v3_ v4_ H_) v1 v2 v3 v4 true H6)
      else
        ((H6.ldI .i64 H.n (0 + 0)).bind fun x11 =>
        (H6.ldI .i64 H.n (0 + 1)).bind fun x12 =>
        (r79 app 4 ⟨false, H6.n, 0, 2, 2, 0⟩ (H6.push (.cells [.int .i64 x11, .int .i64 x12] false))).bind fun p13 =>
        if p13.1 = true then
          ((p13.2.ldI .i64 H.n (0 + 2)).bind fun x15 =>
          (r79 app 40 ⟨false, p13.2.n, 0, 1, 1, 0⟩ (p13.2.push (.cells [.int .i64 x15] false))).bind fun p16 =>
          r63_j2 app (fun v1_ v2_ v3_ v4_ H_ => r63_l1 app k_ v1_ v2_ v3_ v4_ H_) v1 v2 v3 v4 (!p16.1) p16.2)
        else
          (r63_j2 app (fun v1_ v2_ v3_ v4_ H_ => r63_l1 app k_ v1_ v2_ v3_ v4_ H_) v1 v2 v3 v4 true p13.2)))
    else
      ((H6.ldI .i64 H.n (0 + 0)).bind fun x17 =>
      (H6.ldI .i64 H.n (0 + 1)).bind fun x18 =>
      (r79 app 4 ⟨false, H6.n, 0, 2, 2, 0⟩ (H6.push (.cells [.int .i64 x17, .int .i64 x18] false))).bind fun p19 =>
      if p19.1 = true then
        ((p19.2.ldI .i64 H.n (0 + 2)).bind fun x21 =>
        (r79 app 40 ⟨false, p19.2.n, 0, 1, 1, 0⟩ (p19.2.push (.cells [.int .i64 x21] false))).bind fun p22 =>
        r63_j2 app (fun v1_ v2_ v3_ v4_ H_ => r63_l1 app k_ v1_ v2_ v3_ v4_ H_) v1 v2 v3 v4 (!p22.1) p22.2)
      else
        (r63_j2 app (fun v1_ v2_ v3_ v4_ H_ => r63_l1 app k_ v1_ v2_ v3_ v4_ H_) v1 v2 v3 v4 true p19.2))))
  else
    (r63_l3 app FUEL v1 v1 (v1.len : Int) 0 H)
noncomputable def r63_j0 (app : App) (v1 : Sl) (v2 : Bool) (H : Hp) : Option (Bool × Hp) :=
  if v2 = true then
    (some (false, H))
  else
    (r63_l1 app FUEL v1 v1 (v1.len : Int) 0 H)
noncomputable def r63 (app : App) (a0 : Sl) (H : Hp) : Option (Bool × Hp) :=
  if (a0.len : Int) < 3 then
    (r63_j0 app a0 true H)
  else
    (r63_j0 app a0 (decide (6 < (a0.len : Int))) H)
/- 65 (congou/cuts.plate).has -/
def ret65 : Bool → AV := fun r => .bool r
noncomputable def r65 (app : App) (a0 : Sl) (a1_0 : Int) (a1_1 : Int) (a1_2 : Int) (a1_3 : Int) (H : Hp) : Option (Bool × Hp) :=
  lt (H.push (.cells [.int .i64 a1_0, .int .i64 a1_1, .int .i64 a1_2, .int .i64 a1_3] false)) fun H1 =>
  (r92 app a0 (.fn 95 [] [.ptr H.n 0]) H1).bind fun p2 =>
  some ((!p2.1), p2.2)
/- 94 congou/cuts.gcd -/
def ret94 : Int → AV := fun r => .int .i64 r
noncomputable def r94_l0 : Nat → Int → Int → Hp → Option (Int × Hp)
  | 0, _, _, _ => none
  | k_ + 1, v1, v2, H => if v2 ≠ 0 then
    (ck (v2 ≠ 0) (
    r94_l0 k_ v2 (Int.tmod v1 v2) H))
  else
    (some ((if v1 < (w64 (0 - v1)) then (w64 (0 - v1)) else v1), H))
noncomputable def r94 (a0 : Int) (a1 : Int) (H : Hp) : Option (Int × Hp) :=
  r94_l0 FUEL a0 a1 H
/- 100 congou/cuts.frac -/
def ret100 : Int × Int → AV := fun r => .agg [.int .i64 r.1, .int .i64 r.2]
noncomputable def r100_j0 (v1 : Int) (v2 : Int) (v3 : Nat) (H : Hp) : Option ((Int × Int) × Hp) :=
  (r94 v1 v2 H0).bind fun p1 =>
  ck (p1.1 ≠ 0) (
  ck (p1.1 ≠ 0) (
  (H.sts v3 0 [.int .i64 (w64 (Int.tdiv v1 p1.1)), .int .i64 (w64 (Int.tdiv v2 p1.1))]).bind fun H4 =>
  (H4.ldI .i64 v3 0).bind fun x5 =>
  (H4.ldI .i64 v3 (0 + 1)).bind fun x6 =>
  some ((x5, x6), H4)))
noncomputable def r100 (a0 : Int) (a1 : Int) (H : Hp) : Option ((Int × Int) × Hp) :=
  lt (H.push (.cells [.int .i64 0, .int .i64 0] false)) fun H1 =>
  if a1 < 0 then
    (r100_j0 (w64 (0 - a0)) (w64 (0 - a1)) H.n H1)
  else
    (r100_j0 a0 a1 H.n H1)
/- 80 congou/cuts.whole -/
def ret80 : Int × Int × Int × Int → AV := fun r => .agg [.int .i64 r.1, .int .i64 r.2.1, .int .i64 r.2.2.1, .int .i64 r.2.2.2]
noncomputable def r80 (a0 : Int) (a1 : Int) (H : Hp) : Option ((Int × Int × Int × Int) × Hp) :=
  lt (H.push (.cells [.int .i64 0, .int .i64 0, .int .i64 0, .int .i64 0] false)) fun H1 =>
  (r100 a0 1 H0).bind fun p2 =>
  (r100 a1 1 H0).bind fun p3 =>
  (H1.sts H.n 0 [.int .i64 p2.1.1, .int .i64 p2.1.2, .int .i64 p3.1.1, .int .i64 p3.1.2]).bind fun H4 =>
  (H4.ldI .i64 H.n 0).bind fun x5 =>
  (H4.ldI .i64 H.n (0 + 1)).bind fun x6 =>
  (H4.ldI .i64 H.n (0 + 2)).bind fun x7 =>
  (H4.ldI .i64 H.n (0 + 3)).bind fun x8 =>
  some ((x5, x6, x7, x8), H4)
/- 68 congou/cuts.down -/
def ret68 : Int → AV := fun r => .int .i64 r
noncomputable def r68_j0 (v1 : Int) (v2 : Bool) (H : Hp) : Option (Int × Hp) :=
  if v2 = true then
    (some (w64 (v1 - 1), H))
  else
    (some (v1, H))
noncomputable def r68 (a0_0 : Int) (a0_1 : Int) (H : Hp) : Option (Int × Hp) :=
  lt (H.push (.cells [.int .i64 a0_0, .int .i64 a0_1] false)) fun H1 =>
  (H1.ldI .i64 H.n (0 + 0)).bind fun x2 =>
  (H1.ldI .i64 H.n (0 + 1)).bind fun x3 =>
  ck (x3 ≠ 0) (
  (H1.ldI .i64 H.n (0 + 0)).bind fun x5 =>
  if x5 < 0 then
    ((H1.ldI .i64 H.n (0 + 1)).bind fun x7 =>
    (H1.ldI .i64 H.n (0 + 0)).bind fun x8 =>
    r68_j0 (w64 (Int.tdiv x2 x3)) (decide ((w64 ((w64 (Int.tdiv x2 x3)) * x7)) ≠ x8)) H1)
  else
    (r68_j0 (w64 (Int.tdiv x2 x3)) false H1))
/- 101 (congou/cuts.plate).box -/
def ret101 : Int × Int × Int × Int × Bool → AV := fun r => .tup [.agg [.int .i64 r.1, .int .i64 r.2.1], .agg [.int .i64 r.2.2.1, .int .i64 r.2.2.2.1], .bool r.2.2.2.2]
noncomputable def r101 (app : App) (a0 : Sl) (H : Hp) : Option ((Int × Int × Int × Int × Bool) × Hp) :=
  lt (((H.push (.cells [.int .i64 0, .int .i64 0] false)).push (.cells [.int .i64 0, .int .i64 0] false)).push (.cells [.bool false] false)) fun H1 =>
  (callr app (.fn 66 [.sl a0] []) (H1.n + 1) ((H1.push .dfr).push (.loop .ready none 0 59 [(2, .ptr H.n 0), (3, .ptr ((H.push (.cells [.int .i64 0, .int .i64 0] false)).n) 0), (4, .ptr (((H.push (.cells [.int .i64 0, .int .i64 0] false)).push (.cells [.int .i64 0, .int .i64 0] false)).n) 0)]))).bind fun p2 =>
  (p2.2.lend (H1.n + 1)).bind fun q3 =>
  if jmp q3.1 = some 0 then
    ((q3.2.ldI .i64 H.n 0).bind fun x5 =>
    (q3.2.ldI .i64 H.n (0 + 1)).bind fun x6 =>
    (q3.2.ldI .i64 ((H.push (.cells [.int .i64 0, .int .i64 0] false)).n) 0).bind fun x7 =>
    (q3.2.ldI .i64 ((H.push (.cells [.int .i64 0, .int .i64 0] false)).n) (0 + 1)).bind fun x8 =>
    (q3.2.ldB (((H.push (.cells [.int .i64 0, .int .i64 0] false)).push (.cells [.int .i64 0, .int .i64 0] false)).n) 0).bind fun x9 =>
    (q3.2.sts H.n 0 [.int .i64 x5, .int .i64 x6]).bind fun H10 =>
    (H10.sts ((H.push (.cells [.int .i64 0, .int .i64 0] false)).n) 0 [.int .i64 x7, .int .i64 x8]).bind fun H11 =>
    (H11.st (((H.push (.cells [.int .i64 0, .int .i64 0] false)).push (.cells [.int .i64 0, .int .i64 0] false)).n) 0 (.bool x9)).bind fun H12 =>
    ck (H10.ldI .i64 ((H.push (.cells [.int .i64 0, .int .i64 0] false)).n) 0 = some x7) (
    ck (H10.ldI .i64 ((H.push (.cells [.int .i64 0, .int .i64 0] false)).n) (0 + 1) = some x8) (
    ck (H10.ldB (((H.push (.cells [.int .i64 0, .int .i64 0] false)).push (.cells [.int .i64 0, .int .i64 0] false)).n) 0 = some x9) (
    ck (H11.ldI .i64 ((H.push (.cells [.int .i64 0, .int .i64 0] false)).n) 0 = some x7) (
    ck (H11.ldI .i64 ((H.push (.cells [.int .i64 0, .int .i64 0] false)).n) (0 + 1) = some x8) (
    ck (H11.ldB (((H.push (.cells [.int .i64 0, .int .i64 0] false)).push (.cells [.int .i64 0, .int .i64 0] false)).n) 0 = some x9) (
    (H12.ldI .i64 H.n 0).bind fun x19 =>
    (H12.ldI .i64 H.n (0 + 1)).bind fun x20 =>
    (H12.ldI .i64 ((H.push (.cells [.int .i64 0, .int .i64 0] false)).n) 0).bind fun x21 =>
    (H12.ldI .i64 ((H.push (.cells [.int .i64 0, .int .i64 0] false)).n) (0 + 1)).bind fun x22 =>
    (H12.ldB (((H.push (.cells [.int .i64 0, .int .i64 0] false)).push (.cells [.int .i64 0, .int .i64 0] false)).n) 0).bind fun x23 =>
    ck (dfrB [H1.n] H12 = true) (
    some ((x19, x20, x21, x22, x23), kill [H1.n] H12)))))))))
  else
    (none)
noncomputable def r101q0_j1 (app : App) (l_ : Nat) (kt0 : Nat → Nat → Nat → Nat → Int → Hp → Option ((Option Code) × Hp)) (v1 : Nat) (v2 : Nat) (v3 : Nat) (v4 : Nat) (v5 : Int) (v6 : Int) (v7 : Bool) (H : Hp) : Option ((Option Code) × Hp) :=
  if v7 = true then
    (ck ((0 : Int) ≤ v5 ∧ v5 < ((2 : Nat) : Int)) (
    (H.ldI .i64 v4 (0 + (v5 : Int).toNat * 1)).bind fun x3 =>
    ck ((0 : Int) ≤ v5 ∧ v5 < ((2 : Nat) : Int)) (
    (H.st v2 (0 + (v5 : Int).toNat * 1) (.int .i64 x3)).bind fun H5 =>
    kt0 v1 v2 v3 v4 (w64 (v6 + 1)) H5)))
  else
    (kt0 v1 v2 v3 v4 (w64 (v6 + 1)) H)
noncomputable def r101q0_j2 (app : App) (l_ : Nat) (kt0 : Nat → Nat → Nat → Nat → Int → Hp → Option ((Option Code) × Hp)) (v1 : Nat) (v2 : Nat) (v3 : Nat) (v4 : Nat) (v5 : Int) (v6 : Int) (H : Hp) : Option ((Option Code) × Hp) :=
  (H.ldB v3 0).bind fun x1 =>
  if x1 = true then
    (ck ((0 : Int) ≤ v5 ∧ v5 < ((2 : Nat) : Int)) (
    (H.ldI .i64 v4 (0 + (v5 : Int).toNat * 1)).bind fun x4 =>
    ck ((0 : Int) ≤ v5 ∧ v5 < ((2 : Nat) : Int)) (
    (H.ldI .i64 v2 (0 + (v5 : Int).toNat * 1)).bind fun x6 =>
    r101q0_j1 app l_ kt0 v1 v2 v3 v4 v5 v6 (decide (x6 < x4)) H)))
  else
    (r101q0_j1 app l_ kt0 v1 v2 v3 v4 v5 v6 true H)
noncomputable def r101q0_j3 (app : App) (l_ : Nat) (kt0 : Nat → Nat → Nat → Nat → Int → Hp → Option ((Option Code) × Hp)) (v1 : Nat) (v2 : Nat) (v3 : Nat) (v4 : Nat) (v5 : Int) (v6 : Int) (v7 : Bool) (H : Hp) : Option ((Option Code) × Hp) :=
  if v7 = true then
    (ck ((0 : Int) ≤ v5 ∧ v5 < ((2 : Nat) : Int)) (
    (H.ldI .i64 v4 (0 + (v5 : Int).toNat * 1)).bind fun x3 =>
    ck ((0 : Int) ≤ v5 ∧ v5 < ((2 : Nat) : Int)) (
    (H.st v1 (0 + (v5 : Int).toNat * 1) (.int .i64 x3)).bind fun H5 =>
    r101q0_j2 app l_ kt0 v1 v2 v3 v4 v5 v6 H5)))
  else
    (r101q0_j2 app l_ kt0 v1 v2 v3 v4 v5 v6 H)
noncomputable def r101q0_l0 (app : App) (l_ : Nat) : Nat → Nat → Nat → Nat → Nat → Int → Hp → Option ((Option Code) × Hp)
  | 0, _, _, _, _, _, _ => none
  | k_ + 1, v1, v2, v3, v4, v5, H => if v5 < 2 then
    ((H.ldB v3 0).bind fun x2 =>
    if x2 = true then
      (ck ((0 : Int) ≤ v5 ∧ v5 < ((2 : Nat) : Int)) (
      (H.ldI .i64 v4 (0 + (v5 : Int).toNat * 1)).bind fun x5 =>
      ck ((0 : Int) ≤ v5 ∧ v5 < ((2 : Nat) : Int)) (
      (H.ldI .i64 v1 (0 + (v5 : Int).toNat * 1)).bind fun x7 =>
      r101q0_j3 app l_ (fun v1_ v2_ v3_ v4_ v5_ H_ => r101q0_l0 app l_ k_ v1_ v2_ v3_ v4_ v5_ H_) v1 v2 v3 v4 v5 v5 (decide (x5 < x7)) H)))
    else
      (r101q0_j3 app l_ (fun v1_ v2_ v3_ v4_ v5_ H_ => r101q0_l0 app l_ k_ v1_ v2_ v3_ v4_ v5_ H_) v1 v2 v3 v4 v5 v5 true H))
  else
    ((H.st v3 0 (.bool true)).bind fun H8 =>
    some (none, H8))
noncomputable def r101q0 (app : App) (l_ : Nat) (v1 : Nat) (v2 : Nat) (v3 : Nat) (y0_0 : Int) (y0_1 : Int) (y0_2 : Int) (y0_3 : Int) (y0_4 : Int) (y0_5 : Int) (y0_6 : Int) (y0_7 : Int) (y0_8 : Int) (y0_9 : Int) (H : Hp) : Option ((Option Code) × Hp) :=
  ((H.push (.cells [.int .i64 0, .int .i64 0, .int .i64 0, .int .i64 0, .int .i64 0, .int .i64 0, .int .i64 0, .int .i64 0, .int .i64 0, .int .i64 0] false)).sts H.n 0 [.int .i64 y0_0, .int .i64 y0_1, .int .i64 y0_2, .int .i64 y0_3, .int .i64 y0_4, .int .i64 y0_5, .int .i64 y0_6, .int .i64 y0_7, .int .i64 y0_8, .int .i64 y0_9]).bind fun H1 =>
  (H1.lbegin l_).bind fun H2 =>
  (H2.ldI .i64 H.n ((0 + 0) + 0)).bind fun x3 =>
  (H2.ldI .i64 H.n (((0 + 0) + 0) + 1)).bind fun x4 =>
  (r68 x3 x4 H0).bind fun p5 =>
  (H2.ldI .i64 H.n ((0 + 0) + 2)).bind fun x6 =>
  (H2.ldI .i64 H.n (((0 + 0) + 2) + 1)).bind fun x7 =>
  (r68 x6 x7 H0).bind fun p8 =>
  ((H2.push (.cells [.int .i64 0, .int .i64 0] false)).sts H2.n 0 [.int .i64 p5.1, .int .i64 p8.1]).bind fun H9 =>
  r101q0_l0 app l_ FUEL v1 v2 v3 H2.n 0 H9
/- 71 (congou/cuts.plate).points -/
def ret71 : Sl → AV := fun r => .sl r
noncomputable def r71_l1 (app : App) (kt0 : Sl → Nat → Nat → Sl → Int → Hp → Option (Sl × Hp)) : Nat → Sl → Nat → Nat → Sl → Int → Int → Hp → Option (Sl × Hp)
  | 0, _, _, _, _, _, _, _ => none
  | k_ + 1, v1, v2, v3, v4, v5, v6, H => (H.ldI .i64 v3 (0 + (1 : Int).toNat * 1)).bind fun x1 =>
  if v6 ≤ x1 then
    ((r80 v5 v6 H0).bind fun p3 =>
    (r65 app v1 p3.1.1 p3.1.2.1 p3.1.2.2.1 p3.1.2.2.2 H).bind fun p4 =>
    if p4.1 = true then
      ((p4.2.apN 2 v4 [.int .i64 v5, .int .i64 v6] 1).bind fun x6 =>
      r71_l1 app kt0 k_ v1 v2 v3 x6.1 v5 (w64 (v6 + 1)) x6.2)
    else
      (r71_l1 app kt0 k_ v1 v2 v3 v4 v5 (w64 (v6 + 1)) p4.2))
  else
    (kt0 v1 v2 v3 v4 (w64 (v5 + 1)) H)
noncomputable def r71_l0 (app : App) : Nat → Sl → Nat → Nat → Sl → Int → Hp → Option (Sl × Hp)
  | 0, _, _, _, _, _, _ => none
  | k_ + 1, v1, v2, v3, v4, v5, H => (H.ldI .i64 v3 (0 + (0 : Int).toNat * 1)).bind fun x1 =>
  if v5 ≤ x1 then
    ((H.ldI .i64 v2 (0 + (1 : Int).toNat * 1)).bind fun x3 =>
    r71_l1 app (fun v1_ v2_ v3_ v4_ v5_ H_ => r71_l0 app k_ v1_ v2_ v3_ v4_ v5_ H_) FUEL v1 v2 v3 v4 v5 x3 H)
  else
    (some (v4, H))
noncomputable def r71 (app : App) (a0 : Sl) (H : Hp) : Option (Sl × Hp) :=
  (r101 app a0 H).bind fun p1 =>
  (((p1.2.push (.cells [.int .i64 0, .int .i64 0] false)).push (.cells [.int .i64 0, .int .i64 0] false)).sts p1.2.n 0 [.int .i64 p1.1.1, .int .i64 p1.1.2.1]).bind fun H2 =>
  (H2.sts ((p1.2.push (.cells [.int .i64 0, .int .i64 0] false)).n) 0 [.int .i64 p1.1.2.2.1, .int .i64 p1.1.2.2.2.1]).bind fun H3 =>
  if p1.1.2.2.2.2 = true then
    ((H3.ldI .i64 p1.2.n (0 + (0 : Int).toNat * 1)).bind fun x5 =>
    r71_l0 app FUEL a0 p1.2.n ((p1.2.push (.cells [.int .i64 0, .int .i64 0] false)).n) ⟨true, 0, 0, 0, 0, 0⟩ x5 H3)
  else
    (some (⟨true, 0, 0, 0, 0, 0⟩, H3))
/- 40 congou/cuts.Points -/
def ret40 : Sl × Int → AV := fun r => .tup [.sl r.1, .int .i64 r.2]
noncomputable def r40 (app : App) (a0 : Sl) (H : Hp) : Option ((Sl × Int) × Hp) :=
  (r63 app a0 H).bind fun p1 =>
  if p1.1 = true then
    ((r71 app a0 p1.2).bind fun p3 =>
    some ((p3.1, 0), p3.2))
  else
    (some ((⟨true, 0, 0, 0, 0, 0⟩, 2), p1.2))
/- 21 congou/congoulaw02.awake -/
def ret21 : Bool → AV := fun r => .bool r
noncomputable def r21 (app : App) (H : Hp) : Option (Bool × Hp) :=
  (r40 app ⟨false, H.n, 0, 4, 4, 0⟩ (H.push (.cells [.int .i64 1, .int .i64 0, .int .i64 1, .int .i64 (-1), .int .i64 0, .int .i64 (-1), .int .i64 0, .int .i64 1, .int .i64 2, .int .i64 0, .int .i64 (-1), .int .i64 (-2)] false))).bind fun p1 =>
  if p1.1.2 = 0 then
    (if (p1.1.1.len : Int) = 1 then
      (ck ((0 : Int) ≤ 0 ∧ 0 < (p1.1.1.len : Int)) (
      (p1.2.ldI .i64 p1.1.1.b (p1.1.1.o + (0 : Int).toNat * 2)).bind fun x5 =>
      (p1.2.ldI .i64 p1.1.1.b ((p1.1.1.o + (0 : Int).toNat * 2) + 1)).bind fun x6 =>
      some ((AV.keqs [.int .i64 x5, .int .i64 x6] [.int .i64 1, .int .i64 2]), p1.2)))
    else
      (some (false, p1.2)))
  else
    (some (false, p1.2))
/- 97 congou/cuts.cross -/
def ret97 : Int → AV := fun r => .int .i64 r
noncomputable def r97 (a0 : Int) (a1 : Int) (a2 : Int) (a3 : Int) (H : Hp) : Option (Int × Hp) :=
  some (w64 ((w64 (a0 * a3)) - (w64 (a1 * a2))), H)
/- 102 congou/cuts.left -/
def ret102 : Int → AV := fun r => .int .i64 r
noncomputable def r102 (a0_0 : Int) (a0_1 : Int) (a1_0 : Int) (a1_1 : Int) (a2_0 : Int) (a2_1 : Int) (H : Hp) : Option (Int × Hp) :=
  lt (((H.push (.cells [.int .i64 a0_0, .int .i64 a0_1] false)).push (.cells [.int .i64 a1_0, .int .i64 a1_1] false)).push (.cells [.int .i64 a2_0, .int .i64 a2_1] false)) fun H1 =>
  (H1.ldI .i64 ((H.push (.cells [.int .i64 a0_0, .int .i64 a0_1] false)).n) (0 + (0 : Int).toNat * 1)).bind fun x2 =>
  (H1.ldI .i64 H.n (0 + (0 : Int).toNat * 1)).bind fun x3 =>
  (H1.ldI .i64 ((H.push (.cells [.int .i64 a0_0, .int .i64 a0_1] false)).n) (0 + (1 : Int).toNat * 1)).bind fun x4 =>
  (H1.ldI .i64 H.n (0 + (1 : Int).toNat * 1)).bind fun x5 =>
  (H1.ldI .i64 (((H.push (.cells [.int .i64 a0_0, .int .i64 a0_1] false)).push (.cells [.int .i64 a1_0, .int .i64 a1_1] false)).n) (0 + (0 : Int).toNat * 1)).bind fun x6 =>
  (H1.ldI .i64 ((H.push (.cells [.int .i64 a0_0, .int .i64 a0_1] false)).n) (0 + (0 : Int).toNat * 1)).bind fun x7 =>
  (H1.ldI .i64 (((H.push (.cells [.int .i64 a0_0, .int .i64 a0_1] false)).push (.cells [.int .i64 a1_0, .int .i64 a1_1] false)).n) (0 + (1 : Int).toNat * 1)).bind fun x8 =>
  (H1.ldI .i64 ((H.push (.cells [.int .i64 a0_0, .int .i64 a0_1] false)).n) (0 + (1 : Int).toNat * 1)).bind fun x9 =>
  (r97 (w64 (x2 - x3)) (w64 (x4 - x5)) (w64 (x6 - x7)) (w64 (x8 - x9)) H0).bind fun p10 =>
  some (p10.1, H1)
/- 72 congou/cuts.chain -/
def ret72 : Sl → AV := fun r => .sl r
noncomputable def r72_j2 (kt0 : Sl → Sl → Int → Int → Hp → Option (Sl × Hp)) (kt1 : Sl → Nat → Sl → Int → Int → Hp → Option (Sl × Hp)) (v1 : Sl) (v2 : Nat) (v3 : Sl) (v4 : Int) (v5 : Int) (v6 : Bool) (H : Hp) : Option (Sl × Hp) :=
  if v6 = true then
    (ck (((0 : Int) ≤ 0 ∧ 0 ≤ (w64 ((v1.len : Int) - 1)) ∧ (w64 ((v1.len : Int) - 1)) ≤ (v1.cap : Int)) ∧ (v1.opn = 0 ∨ v1.opn = 2)) (
    kt1 (v1.cut 2 (0 : Int).toNat (w64 ((v1.len : Int) - 1) : Int).toNat) v2 v3 v4 v5 H))
  else
    ((H.ldI .i64 v2 0).bind fun x3 =>
    (H.ldI .i64 v2 (0 + 1)).bind fun x4 =>
    (H.apN 2 v1 [.int .i64 x3, .int .i64 x4] 1).bind fun x5 =>
    kt0 x5.1 v3 v4 (w64 (v5 + 1)) x5.2)
noncomputable def r72_l1 (kt0 : Sl → Sl → Int → Int → Hp → Option (Sl × Hp)) : Nat → Sl → Nat → Sl → Int → Int → Hp → Option (Sl × Hp)
  | 0, _, _, _, _, _, _ => none
  | k_ + 1, v1, v2, v3, v4, v5, H => if 1 < (v1.len : Int) then
    (ck ((0 : Int) ≤ (w64 ((v1.len : Int) - 2)) ∧ (w64 ((v1.len : Int) - 2)) < (v1.len : Int)) (
    (H.ldI .i64 v1.b (v1.o + (w64 ((v1.len : Int) - 2) : Int).toNat * 2)).bind fun x3 =>
    (H.ldI .i64 v1.b ((v1.o + (w64 ((v1.len : Int) - 2) : Int).toNat * 2) + 1)).bind fun x4 =>
    ck ((0 : Int) ≤ (w64 ((v1.len : Int) - 1)) ∧ (w64 ((v1.len : Int) - 1)) < (v1.len : Int)) (
    (H.ldI .i64 v1.b (v1.o + (w64 ((v1.len : Int) - 1) : Int).toNat * 2)).bind fun x6 =>
    (H.ldI .i64 v1.b ((v1.o + (w64 ((v1.len : Int) - 1) : Int).toNat * 2) + 1)).bind fun x7 =>
    (H.ldI .i64 v2 0).bind fun x8 =>
    (H.ldI .i64 v2 (0 + 1)).bind fun x9 =>
    (r102 x3 x4 x6 x7 x8 x9 H0).bind fun p10 =>
    r72_j2 kt0 (fun v1_ v2_ v3_ v4_ v5_ H_ => r72_l1 kt0 k_ v1_ v2_ v3_ v4_ v5_ H_) v1 v2 v3 v4 v5 (decide (p10.1 ≤ 0)) H)))
  else
    (r72_j2 kt0 (fun v1_ v2_ v3_ v4_ v5_ H_ => r72_l1 kt0 k_ v1_ v2_ v3_ v4_ v5_ H_) v1 v2 v3 v4 v5 false H)
noncomputable def r72_l0 : Nat → Sl → Sl → Int → Int → Hp → Option (Sl × Hp)
  | 0, _, _, _, _, _ => none
  | k_ + 1, v1, v2, v3, v4, H => if v4 < v3 then
    (ck ((0 : Int) ≤ v4 ∧ v4 < (v2.len : Int)) (
    (H.ldI .i64 v2.b (v2.o + (v4 : Int).toNat * 2)).bind fun x3 =>
    (H.ldI .i64 v2.b ((v2.o + (v4 : Int).toNat * 2) + 1)).bind fun x4 =>
    ((H.push (.cells [.int .i64 0, .int .i64 0] false)).sts H.n 0 [.int .i64 x3, .int .i64 x4]).bind fun H5 =>
    r72_l1 (fun v1_ v2_ v3_ v4_ H_ => r72_l0 k_ v1_ v2_ v3_ v4_ H_) FUEL v1 H.n v2 v3 v4 H5))
  else
    (some (v1, H))
noncomputable def r72 (a0 : Sl) (H : Hp) : Option (Sl × Hp) :=
  r72_l0 FUEL ⟨true, 0, 0, 0, 0, 0⟩ a0 (a0.len : Int) 0 H
/- 73 slices.Reverse[[][2]int,[2]int] -/
def ret73 : Unit → AV := fun _ => .tup []
noncomputable def r73_l0 : Nat → Sl → Int → Int → Hp → Option (Unit × Hp)
  | 0, _, _, _, _ => none
  | k_ + 1, v1, v2, v3, H => if v2 < v3 then
    (ck ((0 : Int) ≤ v3 ∧ v3 < (v1.len : Int)) (
    (H.ldI .i64 v1.b (v1.o + (v3 : Int).toNat * 2)).bind fun x3 =>
    (H.ldI .i64 v1.b ((v1.o + (v3 : Int).toNat * 2) + 1)).bind fun x4 =>
    ck ((0 : Int) ≤ v2 ∧ v2 < (v1.len : Int)) (
    (H.ldI .i64 v1.b (v1.o + (v2 : Int).toNat * 2)).bind fun x6 =>
    (H.ldI .i64 v1.b ((v1.o + (v2 : Int).toNat * 2) + 1)).bind fun x7 =>
    ck ((0 : Int) ≤ v2 ∧ v2 < (v1.len : Int)) (
    (H.sts v1.b (v1.o + (v2 : Int).toNat * 2) [.int .i64 x3, .int .i64 x4]).bind fun H9 =>
    ck ((0 : Int) ≤ v3 ∧ v3 < (v1.len : Int)) (
    (H9.sts v1.b (v1.o + (v3 : Int).toNat * 2) [.int .i64 x6, .int .i64 x7]).bind fun H11 =>
    r73_l0 k_ v1 (w64 (v2 + 1)) (w64 (v3 - 1)) H11)))))
  else
    (some ((), H))
noncomputable def r73 (a0 : Sl) (H : Hp) : Option (Unit × Hp) :=
  r73_l0 FUEL a0 0 (w64 ((a0.len : Int) - 1)) H
/- 23 congou/cuts.Hull -/
def ret23 : Sl × Int → AV := fun r => .tup [.sl r.1, .int .i64 r.2]
noncomputable def r23 (app : App) (a0 : Sl) (H : Hp) : Option ((Sl × Int) × Hp) :=
  (r63 app a0 H).bind fun p1 =>
  if p1.1 = true then
    ((r71 app a0 p1.2).bind fun p3 =>
    if (p3.1.len : Int) = 0 then
      (some ((⟨true, 0, 0, 0, 0, 0⟩, 4), p3.2))
    else
      (if (p3.1.len : Int) = 1 then
        (some ((p3.1, 0), p3.2))
      else
        ((r72 p3.1 p3.2).bind fun p6 =>
        (r73 p3.1 p6.2).bind fun p7 =>
        (r72 p3.1 p7.2).bind fun p8 =>
        ck ((0 : Int) ≤ 0 ∧ 0 ≤ (w64 ((p6.1.len : Int) - 1)) ∧ (w64 ((p6.1.len : Int) - 1)) ≤ (w64 ((p6.1.len : Int) - 1)) ∧ (w64 ((p6.1.len : Int) - 1)) ≤ (p6.1.cap : Int)) (
        ck (((0 : Int) ≤ 0 ∧ 0 ≤ (w64 ((p8.1.len : Int) - 1)) ∧ (w64 ((p8.1.len : Int) - 1)) ≤ (p8.1.cap : Int)) ∧ (p8.1.opn = 0 ∨ p8.1.opn = 2)) (
        (p8.2.lds (p8.1.cut 2 (0 : Int).toNat (w64 ((p8.1.len : Int) - 1) : Int).toNat).b (p8.1.cut 2 (0 : Int).toNat (w64 ((p8.1.len : Int) - 1) : Int).toNat).o ((p8.1.cut 2 (0 : Int).toNat (w64 ((p8.1.len : Int) - 1) : Int).toNat).len * 2)).bind fun x11 =>
        ck (x11.all AV.one = true) (
        (p8.2.app 2 (p6.1.cut3 2 (0 : Int).toNat (w64 ((p6.1.len : Int) - 1) : Int).toNat (w64 ((p6.1.len : Int) - 1) : Int).toNat) x11 (p8.1.cut 2 (0 : Int).toNat (w64 ((p8.1.len : Int) - 1) : Int).toNat).len).bind fun x13 =>
        some ((x13.1, 0), x13.2)))))))
  else
    (some ((⟨true, 0, 0, 0, 0, 0⟩, 2), p1.2))
/- 82 slices.MaxFunc[[][2]int,[2]int] -/
def ret82 : Int × Int → AV := fun r => .agg [.int .i64 r.1, .int .i64 r.2]
noncomputable def r82_l0 (app : App) : Nat → Sl → AV → Nat → Nat → Int → Hp → Option ((Int × Int) × Hp)
  | 0, _, _, _, _, _, _ => none
  | k_ + 1, v1, v2, v3, v4, v5, H => if v5 < (v1.len : Int) then
    (ck ((0 : Int) ≤ v5 ∧ v5 < (v1.len : Int)) (
    (H.ldI .i64 v1.b (v1.o + (v5 : Int).toNat * 2)).bind fun x3 =>
    (H.ldI .i64 v1.b ((v1.o + (v5 : Int).toNat * 2) + 1)).bind fun x4 =>
    (H.ldI .i64 v4 0).bind fun x5 =>
    (H.ldI .i64 v4 (0 + 1)).bind fun x6 =>
    (callv app v2 [.agg [.int .i64 x3, .int .i64 x4], .agg [.int .i64 x5, .int .i64 x6]] H).bind fun p7 =>
    (p7.1.asI .i64).bind fun x8 =>
    if 0 < x8 then
      (ck ((0 : Int) ≤ v5 ∧ v5 < (v1.len : Int)) (
      (p7.2.ldI .i64 v1.b (v1.o + (v5 : Int).toNat * 2)).bind fun x11 =>
      (p7.2.ldI .i64 v1.b ((v1.o + (v5 : Int).toNat * 2) + 1)).bind fun x12 =>
      (p7.2.sts v4 0 [.int .i64 x11, .int .i64 x12]).bind fun H13 =>
      r82_l0 app k_ v1 v2 v3 v4 (w64 (v5 + 1)) H13))
    else
      (r82_l0 app k_ v1 v2 v3 v4 (w64 (v5 + 1)) p7.2)))
  else
    ((H.ldI .i64 v4 0).bind fun x14 =>
    (H.ldI .i64 v4 (0 + 1)).bind fun x15 =>
    (H.sts v3 0 [.int .i64 x14, .int .i64 x15]).bind fun H16 =>
    (H16.ldI .i64 v3 0).bind fun x17 =>
    (H16.ldI .i64 v3 (0 + 1)).bind fun x18 =>
    some ((x17, x18), H16))
noncomputable def r82 (app : App) (a0 : Sl) (a1 : AV) (H : Hp) : Option ((Int × Int) × Hp) :=
  lt (H.push (.cells [.int .i64 0, .int .i64 0] false)) fun H1 =>
  if (a0.len : Int) < 1 then
    (none)
  else
    (ck ((0 : Int) ≤ 0 ∧ 0 < (a0.len : Int)) (
    (H1.ldI .i64 a0.b (a0.o + (0 : Int).toNat * 2)).bind fun x4 =>
    (H1.ldI .i64 a0.b ((a0.o + (0 : Int).toNat * 2) + 1)).bind fun x5 =>
    ((H1.push (.cells [.int .i64 0, .int .i64 0] false)).sts H1.n 0 [.int .i64 x4, .int .i64 x5]).bind fun H6 =>
    r82_l0 app FUEL a0 a1 H.n H1.n 1 H6))
/- 42 congou/cuts.Best -/
def ret42 : Int × Int → AV := fun r => .tup [.int .i64 r.1, .int .i64 r.2]
noncomputable def r42_j0 (app : App) (v1 : Sl) (v2 : Nat) (v3 : Nat) (v4 : Bool) (H : Hp) : Option ((Int × Int) × Hp) :=
  if v4 = true then
    (some ((0, 2), H))
  else
    ((r71 app v1 H).bind fun p2 =>
    if (p2.1.len : Int) = 0 then
      (some ((0, 4), p2.2))
    else
      (((p2.2.push (.cells [.nilfn] false)).st p2.2.n 0 (.fn 81 [] [.ptr v2 0, .ptr v3 0])).bind fun H4 =>
      (H4.ldV p2.2.n 0).bind fun x5 =>
      (r82 app p2.1 (.fn 83 [] [.ptr p2.2.n 0]) H4).bind fun p6 =>
      (callv app x5 [.agg [.int .i64 p6.1.1, .int .i64 p6.1.2]] p6.2).bind fun p7 =>
      (p7.1.asI .i64).bind fun x8 =>
      ck (p6.2.isV p2.2.n 0 x5 = true) (
      some ((x8, 0), p7.2))))
noncomputable def r42 (app : App) (a0 : Sl) (a1 : Int) (a2 : Int) (H : Hp) : Option ((Int × Int) × Hp) :=
  lt ((H.push (.cells [.int .i64 a1] false)).push (.cells [.int .i64 a2] false)) fun H1 =>
  (r63 app a0 H1).bind fun p2 =>
  if p2.1 = true then
    ((p2.2.ldI .i64 H.n 0).bind fun x4 =>
    (p2.2.ldI .i64 ((H.push (.cells [.int .i64 a1] false)).n) 0).bind fun x5 =>
    (r79 app 9 ⟨false, p2.2.n, 0, 2, 2, 0⟩ (p2.2.push (.cells [.int .i64 x4, .int .i64 x5] false))).bind fun p6 =>
    r42_j0 app a0 H.n ((H.push (.cells [.int .i64 a1] false)).n) (!p6.1) p6.2)
  else
    (r42_j0 app a0 H.n ((H.push (.cells [.int .i64 a1] false)).n) true p2.2)
/- 43 slices.BinarySearchFunc[[][2]int,[2]int,[2]int] -/
def ret43 : Int × Bool → AV := fun r => .tup [.int .i64 r.1, .bool r.2]
noncomputable def r43_l0 (app : App) : Nat → Sl → AV → Nat → Int → Int → Int → Hp → Option ((Int × Bool) × Hp)
  | 0, _, _, _, _, _, _, _ => none
  | k_ + 1, v1, v2, v3, v4, v5, v6, H => if v5 < v6 then
    (ck ((0 : Int) ≤ (w64 (shrOf .u64 (IntKind.wrap .u64 (w64 (v5 + v6))) 1)) ∧ (w64 (shrOf .u64 (IntKind.wrap .u64 (w64 (v5 + v6))) 1)) < (v1.len : Int)) (
    (H.ldI .i64 v1.b (v1.o + (w64 (shrOf .u64 (IntKind.wrap .u64 (w64 (v5 + v6))) 1) : Int).toNat * 2)).bind fun x3 =>
    (H.ldI .i64 v1.b ((v1.o + (w64 (shrOf .u64 (IntKind.wrap .u64 (w64 (v5 + v6))) 1) : Int).toNat * 2) + 1)).bind fun x4 =>
    (H.ldI .i64 v3 0).bind fun x5 =>
    (H.ldI .i64 v3 (0 + 1)).bind fun x6 =>
    (callv app v2 [.agg [.int .i64 x3, .int .i64 x4], .agg [.int .i64 x5, .int .i64 x6]] H).bind fun p7 =>
    (p7.1.asI .i64).bind fun x8 =>
    if x8 < 0 then
      (r43_l0 app k_ v1 v2 v3 v4 (w64 ((w64 (shrOf .u64 (IntKind.wrap .u64 (w64 (v5 + v6))) 1)) + 1)) v6 p7.2)
    else
      (r43_l0 app k_ v1 v2 v3 v4 v5 (w64 (shrOf .u64 (IntKind.wrap .u64 (w64 (v5 + v6))) 1)) p7.2)))
  else
    (if v5 < v4 then
      (ck ((0 : Int) ≤ v5 ∧ v5 < (v1.len : Int)) (
      (H.ldI .i64 v1.b (v1.o + (v5 : Int).toNat * 2)).bind fun x12 =>
      (H.ldI .i64 v1.b ((v1.o + (v5 : Int).toNat * 2) + 1)).bind fun x13 =>
      (H.ldI .i64 v3 0).bind fun x14 =>
      (H.ldI .i64 v3 (0 + 1)).bind fun x15 =>
      (callv app v2 [.agg [.int .i64 x12, .int .i64 x13], .agg [.int .i64 x14, .int .i64 x15]] H).bind fun p16 =>
      (p16.1.asI .i64).bind fun x17 =>
      some ((v5, (decide (x17 = 0))), p16.2)))
    else
      (some ((v5, false), H)))
noncomputable def r43 (app : App) (a0 : Sl) (a1_0 : Int) (a1_1 : Int) (a2 : AV) (H : Hp) : Option ((Int × Bool) × Hp) :=
  lt (H.push (.cells [.int .i64 a1_0, .int .i64 a1_1] false)) fun H1 =>
  r43_l0 app FUEL a0 a2 H.n (a0.len : Int) 0 (a0.len : Int) H1
/- 107 cmp.isNaN[int] -/
def ret107 : Bool → AV := fun r => .bool r
noncomputable def r107 (a0 : Int) (H : Hp) : Option (Bool × Hp) :=
  some ((decide (a0 ≠ a0)), H)
/- 84 cmp.Compare[int] -/
def ret84 : Int → AV := fun r => .int .i64 r
noncomputable def r84 (a0 : Int) (a1 : Int) (H : Hp) : Option (Int × Hp) :=
  (r107 a0 H0).bind fun p1 =>
  (r107 a1 H0).bind fun p2 =>
  if p1.1 = true then
    (if p2.1 = true then
      (some (0, H))
    else
      (some ((-1), H)))
  else
    (if p2.1 = true then
      (some (1, H))
    else
      (if a0 < a1 then
        (some ((-1), H))
      else
        (if a1 < a0 then
          (some (1, H))
        else
          (some (0, H)))))
/- 45 slices.Compare[[]int,int] -/
def ret45 : Int → AV := fun r => .int .i64 r
noncomputable def r45_l0 : Nat → Sl → Sl → Sl → Int → Int → Hp → Option (Int × Hp)
  | 0, _, _, _, _, _, _ => none
  | k_ + 1, v1, v2, v3, v4, v5, H => if v5 < v4 then
    (ck ((0 : Int) ≤ v5 ∧ v5 < (v3.len : Int)) (
    (H.ldI .i64 v3.b (v3.o + (v5 : Int).toNat * 1)).bind fun x3 =>
    if (v2.len : Int) ≤ v5 then
      (some (1, H))
    else
      (ck ((0 : Int) ≤ v5 ∧ v5 < (v2.len : Int)) (
      (H.ldI .i64 v2.b (v2.o + (v5 : Int).toNat * 1)).bind fun x6 =>
      (r84 x3 x6 H0).bind fun p7 =>
      if p7.1 ≠ 0 then
        (some (p7.1, H))
      else
        (r45_l0 k_ v1 v2 v3 v4 (w64 (v5 + 1)) H)))))
  else
    (if (v1.len : Int) < (v2.len : Int) then
      (some ((-1), H))
    else
      (some (0, H)))
noncomputable def r45 (a0 : Sl) (a1 : Sl) (H : Hp) : Option (Int × Hp) :=
  r45_l0 FUEL a0 a1 a0 (a0.len : Int) 0 H
/- 44 congou/congoulaw02.CutsWithin$1 -/
def ret44 : Int → AV := fun r => .int .i64 r
noncomputable def r44 (a0_0 : Int) (a0_1 : Int) (a1_0 : Int) (a1_1 : Int) (H : Hp) : Option (Int × Hp) :=
  lt ((H.push (.cells [.int .i64 a0_0, .int .i64 a0_1] false)).push (.cells [.int .i64 a1_0, .int .i64 a1_1] false)) fun H1 =>
  (r45 ⟨false, H.n, 0 + (0 : Int).toNat * 1, (((2 : Nat) : Int) : Int).toNat - (0 : Int).toNat, 2 - (0 : Int).toNat, 0⟩ ⟨false, (H.push (.cells [.int .i64 a0_0, .int .i64 a0_1] false)).n, 0 + (0 : Int).toNat * 1, (((2 : Nat) : Int) : Int).toNat - (0 : Int).toNat, 2 - (0 : Int).toNat, 0⟩ H1).bind fun p2 =>
  some (p2.1, p2.2)
/- 46 congou/congoulaw02.between -/
def ret46 : Bool → AV := fun r => .bool r
noncomputable def r46 (a0_0 : Int) (a0_1 : Int) (a1_0 : Int) (a1_1 : Int) (a2_0 : Int) (a2_1 : Int) (H : Hp) : Option (Bool × Hp) :=
  lt (((H.push (.cells [.int .i64 a0_0, .int .i64 a0_1] false)).push (.cells [.int .i64 a1_0, .int .i64 a1_1] false)).push (.cells [.int .i64 a2_0, .int .i64 a2_1] false)) fun H1 =>
  (H1.ldI .i64 H.n (0 + (0 : Int).toNat * 1)).bind fun x2 =>
  (H1.ldI .i64 ((H.push (.cells [.int .i64 a0_0, .int .i64 a0_1] false)).n) (0 + (0 : Int).toNat * 1)).bind fun x3 =>
  (H1.ldI .i64 (((H.push (.cells [.int .i64 a0_0, .int .i64 a0_1] false)).push (.cells [.int .i64 a1_0, .int .i64 a1_1] false)).n) (0 + (0 : Int).toNat * 1)).bind fun x4 =>
  if (if x3 < x2 then x3 else x2) ≤ x4 then
    ((H1.ldI .i64 (((H.push (.cells [.int .i64 a0_0, .int .i64 a0_1] false)).push (.cells [.int .i64 a1_0, .int .i64 a1_1] false)).n) (0 + (0 : Int).toNat * 1)).bind fun x6 =>
    (H1.ldI .i64 H.n (0 + (0 : Int).toNat * 1)).bind fun x7 =>
    (H1.ldI .i64 ((H.push (.cells [.int .i64 a0_0, .int .i64 a0_1] false)).n) (0 + (0 : Int).toNat * 1)).bind fun x8 =>
    if x6 ≤ (if x7 < x8 then x8 else x7) then
      ((H1.ldI .i64 H.n (0 + (1 : Int).toNat * 1)).bind fun x10 =>
      (H1.ldI .i64 ((H.push (.cells [.int .i64 a0_0, .int .i64 a0_1] false)).n) (0 + (1 : Int).toNat * 1)).bind fun x11 =>
      (H1.ldI .i64 (((H.push (.cells [.int .i64 a0_0, .int .i64 a0_1] false)).push (.cells [.int .i64 a1_0, .int .i64 a1_1] false)).n) (0 + (1 : Int).toNat * 1)).bind fun x12 =>
      if (if x11 < x10 then x11 else x10) ≤ x12 then
        ((H1.ldI .i64 (((H.push (.cells [.int .i64 a0_0, .int .i64 a0_1] false)).push (.cells [.int .i64 a1_0, .int .i64 a1_1] false)).n) (0 + (1 : Int).toNat * 1)).bind fun x14 =>
        (H1.ldI .i64 H.n (0 + (1 : Int).toNat * 1)).bind fun x15 =>
        (H1.ldI .i64 ((H.push (.cells [.int .i64 a0_0, .int .i64 a0_1] false)).n) (0 + (1 : Int).toNat * 1)).bind fun x16 =>
        some ((decide (x14 ≤ (if x15 < x16 then x16 else x15))), H1))
      else
        (some (false, H1)))
    else
      (some (false, H1)))
  else
    (some (false, H1))
/- 85 slices.Index[[][2]int,[2]int] -/
def ret85 : Int → AV := fun r => .int .i64 r
noncomputable def r85_l0 : Nat → Sl → Nat → Int → Int → Hp → Option (Int × Hp)
  | 0, _, _, _, _, _ => none
  | k_ + 1, v1, v2, v3, v4, H => if v4 < v3 then
    ((H.ldI .i64 v2 0).bind fun x2 =>
    (H.ldI .i64 v2 (0 + 1)).bind fun x3 =>
    ck ((0 : Int) ≤ v4 ∧ v4 < (v1.len : Int)) (
    (H.ldI .i64 v1.b (v1.o + (v4 : Int).toNat * 2)).bind fun x5 =>
    (H.ldI .i64 v1.b ((v1.o + (v4 : Int).toNat * 2) + 1)).bind fun x6 =>
    if (AV.keqs [.int .i64 x2, .int .i64 x3] [.int .i64 x5, .int .i64 x6]) = true then
      (some (v4, H))
    else
      (r85_l0 k_ v1 v2 v3 (w64 (v4 + 1)) H)))
  else
    (some ((-1), H))
noncomputable def r85 (a0 : Sl) (a1_0 : Int) (a1_1 : Int) (H : Hp) : Option (Int × Hp) :=
  lt (H.push (.cells [.int .i64 a1_0, .int .i64 a1_1] false)) fun H1 =>
  r85_l0 FUEL a0 H.n (a0.len : Int) 0 H1
/- 47 slices.Contains[[][2]int,[2]int] -/
def ret47 : Bool → AV := fun r => .bool r
noncomputable def r47 (a0 : Sl) (a1_0 : Int) (a1_1 : Int) (H : Hp) : Option (Bool × Hp) :=
  lt (H.push (.cells [.int .i64 a1_0, .int .i64 a1_1] false)) fun H1 =>
  (H1.ldI .i64 H.n 0).bind fun x2 =>
  (H1.ldI .i64 H.n (0 + 1)).bind fun x3 =>
  (r85 a0 x2 x3 H1).bind fun p4 =>
  some ((decide (0 ≤ p4.1)), p4.2)
/- 48 congou/congoulaw02.near -/
def ret48 : Bool → AV := fun r => .bool r
noncomputable def r48 (a0 : Int) (a1 : Int) (H : Hp) : Option (Bool × Hp) :=
  if (-9) ≤ a0 then
    (if a0 ≤ 9 then
      (if (-9) ≤ a1 then
        (some ((decide (a1 ≤ 9)), H))
      else
        (some (false, H)))
    else
      (some (false, H)))
  else
    (some (false, H))
/- 9 congou/congoulaw02.CutsWithin -/
def ret9 : Bool → AV := fun r => .bool r
noncomputable def r9_j8 (app : App) (kt4 : Int → Int → Sl → Sl → Int → Int → Bool → Nat → Nat → Sl → Int → Int → Sl → Int → Int → Hp → Option (Bool × Hp)) (v1 : Int) (v2 : Int) (v3 : Sl) (v4 : Sl) (v5 : Int) (v6 : Int) (v7 : Bool) (v8 : Nat) (v9 : Nat) (v10 : Sl) (v11 : Int) (v12 : Int) (v13 : Sl) (v14 : Int) (v15 : Int) (v16 : Bool) (H : Hp) : Option (Bool × Hp) :=
  if v16 = true then
    (some (false, H))
  else
    (kt4 v1 v2 v3 v4 v5 v6 v7 v8 v9 v10 v11 v12 v13 v14 (w64 (v15 + 1)) H)
noncomputable def r9_l4 (app : App) (kt3 : Int → Int → Sl → Sl → Int → Int → Bool → Sl → Int → Int → Hp → Option (Bool × Hp)) : Nat → Int → Int → Sl → Sl → Int → Int → Bool → Nat → Nat → Sl → Int → Int → Sl → Int → Int → Hp → Option (Bool × Hp)
  | 0, _, _, _, _, _, _, _, _, _, _, _, _, _, _, _, _ => none
  | k_ + 1, v1, v2, v3, v4, v5, v6, v7, v8, v9, v10, v11, v12, v13, v14, v15, H => if v15 < v14 then
    (ck ((0 : Int) ≤ v15 ∧ v15 < (v13.len : Int)) (
    (H.ldI .i64 v13.b (v13.o + (v15 : Int).toNat * 2)).bind fun x3 =>
    (H.ldI .i64 v13.b ((v13.o + (v15 : Int).toNat * 2) + 1)).bind fun x4 =>
    ((H.push (.cells [.int .i64 0, .int .i64 0] false)).sts H.n 0 [.int .i64 x3, .int .i64 x4]).bind fun H5 =>
    (H5.ldI .i64 v9 (0 + (0 : Int).toNat * 1)).bind fun x6 =>
    (H5.ldI .i64 v8 (0 + (0 : Int).toNat * 1)).bind fun x7 =>
    (H5.ldI .i64 H.n (0 + (1 : Int).toNat * 1)).bind fun x8 =>
    (H5.ldI .i64 v8 (0 + (1 : Int).toNat * 1)).bind fun x9 =>
    (H5.ldI .i64 v9 (0 + (1 : Int).toNat * 1)).bind fun x10 =>
    (H5.ldI .i64 v8 (0 + (1 : Int).toNat * 1)).bind fun x11 =>
    (H5.ldI .i64 H.n (0 + (0 : Int).toNat * 1)).bind fun x12 =>
    (H5.ldI .i64 v8 (0 + (0 : Int).toNat * 1)).bind fun x13 =>
    if (w64 ((w64 ((w64 (x6 - x7)) * (w64 (x8 - x9)))) - (w64 ((w64 (x10 - x11)) * (w64 (x12 - x13)))))) < 0 then
      (r9_j8 app (fun v1_ v2_ v3_ v4_ v5_ v6_ v7_ v8_ v9_ v10_ v11_ v12_ v13_ v14_ v15_ H_ => r9_l4 app kt3 k_ v1_ v2_ v3_ v4_ v5_ v6_ v7_ v8_ v9_ v10_ v11_ v12_ v13_ v14_ v15_ H_) v1 v2 v3 v4 v5 v6 v7 v8 v9 v10 v11 v12 v13 v14 v15 true H5)
    else
      (if (w64 ((w64 ((w64 (x6 - x7)) * (w64 (x8 - x9)))) - (w64 ((w64 (x10 - x11)) * (w64 (x12 - x13)))))) = 0 then
        ((H5.ldI .i64 v8 0).bind fun x16 =>
        (H5.ldI .i64 v8 (0 + 1)).bind fun x17 =>
        (H5.ldI .i64 v9 0).bind fun x18 =>
        (H5.ldI .i64 v9 (0 + 1)).bind fun x19 =>
        (H5.ldI .i64 H.n 0).bind fun x20 =>
        (H5.ldI .i64 H.n (0 + 1)).bind fun x21 =>
        (r46 x16 x17 x18 x19 x20 x21 H0).bind fun p22 =>
        if p22.1 = true then
          ((H5.ldI .i64 H.n 0).bind fun x24 =>
          (H5.ldI .i64 H.n (0 + 1)).bind fun x25 =>
          (H5.ldI .i64 v8 0).bind fun x26 =>
          (H5.ldI .i64 v8 (0 + 1)).bind fun x27 =>
          if (AV.keqs [.int .i64 x24, .int .i64 x25] [.int .i64 x26, .int .i64 x27]) = true then
            (r9_j8 app (fun v1_ v2_ v3_ v4_ v5_ v6_ v7_ v8_ v9_ v10_ v11_ v12_ v13_ v14_ v15_ H_ => r9_l4 app kt3 k_ v1_ v2_ v3_ v4_ v5_ v6_ v7_ v8_ v9_ v10_ v11_ v12_ v13_ v14_ v15_ H_) v1 v2 v3 v4 v5 v6 v7 v8 v9 v10 v11 v12 v13 v14 v15 false H5)
          else
            ((H5.ldI .i64 H.n 0).bind fun x29 =>
            (H5.ldI .i64 H.n (0 + 1)).bind fun x30 =>
            (H5.ldI .i64 v9 0).bind fun x31 =>
            (H5.ldI .i64 v9 (0 + 1)).bind fun x32 =>
            if (AV.keqs [.int .i64 x29, .int .i64 x30] [.int .i64 x31, .int .i64 x32]) = true then
              (r9_j8 app (fun v1_ v2_ v3_ v4_ v5_ v6_ v7_ v8_ v9_ v10_ v11_ v12_ v13_ v14_ v15_ H_ => r9_l4 app kt3 k_ v1_ v2_ v3_ v4_ v5_ v6_ v7_ v8_ v9_ v10_ v11_ v12_ v13_ v14_ v15_ H_) v1 v2 v3 v4 v5 v6 v7 v8 v9 v10 v11 v12 v13 v14 v15 false H5)
            else
              ((H5.ldI .i64 H.n 0).bind fun x34 =>
              (H5.ldI .i64 H.n (0 + 1)).bind fun x35 =>
              (r47 v3 x34 x35 H5).bind fun p36 =>
              r9_j8 app (fun v1_ v2_ v3_ v4_ v5_ v6_ v7_ v8_ v9_ v10_ v11_ v12_ v13_ v14_ v15_ H_ => r9_l4 app kt3 k_ v1_ v2_ v3_ v4_ v5_ v6_ v7_ v8_ v9_ v10_ v11_ v12_ v13_ v14_ v15_ H_) v1 v2 v3 v4 v5 v6 v7 v8 v9 v10 v11 v12 v13 v14 v15 p36.1 p36.2)))
        else
          (r9_j8 app (fun v1_ v2_ v3_ v4_ v5_ v6_ v7_ v8_ v9_ v10_ v11_ v12_ v13_ v14_ v15_ H_ => r9_l4 app kt3 k_ v1_ v2_ v3_ v4_ v5_ v6_ v7_ v8_ v9_ v10_ v11_ v12_ v13_ v14_ v15_ H_) v1 v2 v3 v4 v5 v6 v7 v8 v9 v10 v11 v12 v13 v14 v15 true H5))
      else
        (r9_j8 app (fun v1_ v2_ v3_ v4_ v5_ v6_ v7_ v8_ v9_ v10_ v11_ v12_ v13_ v14_ v15_ H_ => r9_l4 app kt3 k_ v1_ v2_ v3_ v4_ v5_ v6_ v7_ v8_ v9_ v10_ v11_ v12_ v13_ v14_ v15_ H_) v1 v2 v3 v4 v5 v6 v7 v8 v9 v10 v11 v12 v13 v14 v15 false H5))))
  else
    (kt3 v1 v2 v3 v4 v5 v6 v7 v10 v11 (w64 (v12 + 1)) H)
noncomputable def r9_j6 (app : App) (v1 : Int) (v2 : Int) (v3 : Int) (v4 : Bool) (v5 : Bool) (H : Hp) : Option (Bool × Hp) :=
  if v5 = true then
    (some (false, H))
  else
    ((r48 v1 v2 H0).bind fun p2 =>
    if p2.1 = true then
      (if v3 = 0 then
        (if v4 = true then
          ((app 21 [] H).bind fun p6 =>
          (p6.1.asB).bind fun x7 =>
          some (x7, p6.2))
        else
          (some (false, H)))
      else
        (some (false, H)))
    else
      (if v3 = 2 then
        ((app 21 [] H).bind fun p9 =>
        (p9.1.asB).bind fun x10 =>
        some (x10, p9.2))
      else
        (some (false, H))))
noncomputable def r9_j7 (app : App) (v1 : Int) (v2 : Int) (v3 : Sl) (v4 : Sl) (v5 : Int) (v6 : Bool) (H : Hp) : Option (Bool × Hp) :=
  if (v3.len : Int) = 1 then
    (r9_j6 app v1 v2 v5 v6 (decide ((v4.len : Int) ≠ 1)) H)
  else
    (r9_j6 app v1 v2 v5 v6 false H)
noncomputable def r9_j5 (app : App) (kt3 : Int → Int → Sl → Sl → Int → Int → Bool → Sl → Int → Int → Hp → Option (Bool × Hp)) (v1 : Int) (v2 : Int) (v3 : Sl) (v4 : Sl) (v5 : Int) (v6 : Int) (v7 : Bool) (v8 : Int) (v9 : Nat) (v10 : Sl) (v11 : Int) (v12 : Int) (H : Hp) : Option (Bool × Hp) :=
  ck ((v3.len : Int) ≠ 0) (
  ck ((0 : Int) ≤ (Int.tmod (w64 (v8 + 1)) (v3.len : Int)) ∧ (Int.tmod (w64 (v8 + 1)) (v3.len : Int)) < (v3.len : Int)) (
  (H.ldI .i64 v3.b (v3.o + (Int.tmod (w64 (v8 + 1)) (v3.len : Int) : Int).toNat * 2)).bind fun x3 =>
  (H.ldI .i64 v3.b ((v3.o + (Int.tmod (w64 (v8 + 1)) (v3.len : Int) : Int).toNat * 2) + 1)).bind fun x4 =>
  ((H.push (.cells [.int .i64 0, .int .i64 0] false)).sts H.n 0 [.int .i64 x3, .int .i64 x4]).bind fun H5 =>
  if (v3.len : Int) = 1 then
    (r9_j7 app v1 v2 v3 v4 v6 v7 H5)
  else
    (r9_l4 app kt3 FUEL v1 v2 v3 v4 v5 v6 v7 v9 H.n v10 v11 v12 v4 (v4.len : Int) 0 H5)))
noncomputable def r9_l3 (app : App) : Nat → Int → Int → Sl → Sl → Int → Int → Bool → Sl → Int → Int → Hp → Option (Bool × Hp)
  | 0, _, _, _, _, _, _, _, _, _, _, _ => none
  | k_ + 1, v1, v2, v3, v4, v5, v6, v7, v8, v9, v10, H => if v10 < v9 then
    (ck ((0 : Int) ≤ v10 ∧ v10 < (v8.len : Int)) (
    (H.ldI .i64 v8.b (v8.o + (v10 : Int).toNat * 2)).bind fun x3 =>
    (H.ldI .i64 v8.b ((v8.o + (v10 : Int).toNat * 2) + 1)).bind fun x4 =>
    ((H.push (.cells [.int .i64 0, .int .i64 0] false)).sts H.n 0 [.int .i64 x3, .int .i64 x4]).bind fun H5 =>
    (H5.ldI .i64 H.n 0).bind fun x6 =>
    (H5.ldI .i64 H.n (0 + 1)).bind fun x7 =>
    (r43 app v4 x6 x7 (.fn 44 [] []) H5).bind fun p8 =>
    if p8.1.2 = true then
      (if v7 = true then
        (r9_j5 app (fun v1_ v2_ v3_ v4_ v5_ v6_ v7_ v8_ v9_ v10_ H_ => r9_l3 app k_ v1_ v2_ v3_ v4_ v5_ v6_ v7_ v8_ v9_ v10_ H_) v1 v2 v3 v4 v5 v6 true v10 H.n v8 v9 v10 p8.2)
      else
        ((p8.2.ldI .i64 H.n (0 + (0 : Int).toNat * 1)).bind fun x11 =>
        (p8.2.ldI .i64 H.n (0 + (1 : Int).toNat * 1)).bind fun x12 =>
        r9_j5 app (fun v1_ v2_ v3_ v4_ v5_ v6_ v7_ v8_ v9_ v10_ H_ => r9_l3 app k_ v1_ v2_ v3_ v4_ v5_ v6_ v7_ v8_ v9_ v10_ H_) v1 v2 v3 v4 v5 v6 (decide ((w64 ((w64 (v1 * x11)) + (w64 (v2 * x12)))) = v5)) v10 H.n v8 v9 v10 p8.2))
    else
      (some (false, p8.2))))
  else
    (r9_j7 app v1 v2 v3 v4 v6 v7 H)
noncomputable def r9_j2 (app : App) (v1 : Sl) (v2 : Int) (v3 : Int) (v4 : Sl) (v5 : Sl) (v6 : Bool) (H : Hp) : Option (Bool × Hp) :=
  if v6 = true then
    (some (false, H))
  else
    ((r18 v1 H).bind fun p2 =>
    (r42 app p2.1 v2 v3 p2.2).bind fun p3 =>
    r9_l3 app FUEL v2 v3 v4 v5 p3.1.1 p3.1.2 false v4 (v4.len : Int) 0 p3.2)
noncomputable def r9_j1 (app : App) (v1 : Sl) (v2 : Int) (v3 : Int) (v4 : Sl) (v5 : Int) (v6 : Sl) (v7 : Bool) (H : Hp) : Option (Bool × Hp) :=
  if v7 = true then
    (if (v6.len : Int) = 0 then
      (if v5 = 4 then
        ((app 21 [] H).bind fun p4 =>
        (p4.1.asB).bind fun x5 =>
        some (x5, p4.2))
      else
        (some (false, H)))
    else
      (some (false, H)))
  else
    (if (v4.len : Int) = 0 then
      (r9_j2 app v1 v2 v3 v4 v6 true H)
    else
      (if (v6.len : Int) < (v4.len : Int) then
        (r9_j2 app v1 v2 v3 v4 v6 true H)
      else
        (ck ((0 : Int) ≤ 0 ∧ 0 < (v4.len : Int)) (
        (H.ldI .i64 v4.b (v4.o + (0 : Int).toNat * 2)).bind fun x9 =>
        (H.ldI .i64 v4.b ((v4.o + (0 : Int).toNat * 2) + 1)).bind fun x10 =>
        ck ((0 : Int) ≤ 0 ∧ 0 < (v6.len : Int)) (
        (H.ldI .i64 v6.b (v6.o + (0 : Int).toNat * 2)).bind fun x12 =>
        (H.ldI .i64 v6.b ((v6.o + (0 : Int).toNat * 2) + 1)).bind fun x13 =>
        r9_j2 app v1 v2 v3 v4 v6 (!(AV.keqs [.int .i64 x9, .int .i64 x10] [.int .i64 x12, .int .i64 x13])) H)))))
noncomputable def r9_j0 (app : App) (v1 : Sl) (v2 : Int) (v3 : Int) (v4 : Sl) (v5 : Int) (v6 : Sl) (v7 : Int) (v8 : Bool) (H : Hp) : Option (Bool × Hp) :=
  if v8 = true then
    (if v5 = 2 then
      (if v7 = v5 then
        ((app 21 [] H).bind fun p4 =>
        (p4.1.asB).bind fun x5 =>
        some (x5, p4.2))
      else
        (some (false, H)))
    else
      (some (false, H)))
  else
    (if (v6.len : Int) = 0 then
      (r9_j1 app v1 v2 v3 v4 v5 v6 true H)
    else
      (r9_j1 app v1 v2 v3 v4 v5 v6 (decide (v5 ≠ 0)) H))
noncomputable def r9 (app : App) (a0 : Sl) (a1 : Int) (a2 : Int) (H : Hp) : Option (Bool × Hp) :=
  (r18 a0 H).bind fun p1 =>
  (r23 app p1.1 p1.2).bind fun p2 =>
  (r18 a0 p2.2).bind fun p3 =>
  (r40 app p3.1 p3.2).bind fun p4 =>
  if p4.1.2 ≠ 0 then
    (r9_j0 app a0 a1 a2 p2.1.1 p2.1.2 p4.1.1 p4.1.2 true p4.2)
  else
    ((r19 a0 p4.2).bind fun p6 =>
    r9_j0 app a0 a1 a2 p2.1.1 p2.1.2 p4.1.1 p4.1.2 (!p6.1) p6.2)
/- 96 (congou/cuts.Side).meet -/
def ret96 : Int × Int × Int × Int × Bool → AV := fun r => .tup [.agg [.int .i64 r.1, .int .i64 r.2.1, .int .i64 r.2.2.1, .int .i64 r.2.2.2.1], .bool r.2.2.2.2]
noncomputable def r96 (a0_0 : Int) (a0_1 : Int) (a0_2 : Int) (a1_0 : Int) (a1_1 : Int) (a1_2 : Int) (H : Hp) : Option ((Int × Int × Int × Int × Bool) × Hp) :=
  lt (((H.push (.cells [.int .i64 a0_0, .int .i64 a0_1, .int .i64 a0_2] false)).push (.cells [.int .i64 a1_0, .int .i64 a1_1, .int .i64 a1_2] false)).push (.cells [.int .i64 0, .int .i64 0, .int .i64 0, .int .i64 0] false)) fun H1 =>
  (H1.ldI .i64 H.n (0 + 0)).bind fun x2 =>
  (H1.ldI .i64 H.n (0 + 1)).bind fun x3 =>
  (H1.ldI .i64 ((H.push (.cells [.int .i64 a0_0, .int .i64 a0_1, .int .i64 a0_2] false)).n) (0 + 0)).bind fun x4 =>
  (H1.ldI .i64 ((H.push (.cells [.int .i64 a0_0, .int .i64 a0_1, .int .i64 a0_2] false)).n) (0 + 1)).bind fun x5 =>
  (r97 x2 x3 x4 x5 H0).bind fun p6 =>
  if p6.1 = 0 then
    ((H1.sts (((H.push (.cells [.int .i64 a0_0, .int .i64 a0_1, .int .i64 a0_2] false)).push (.cells [.int .i64 a1_0, .int .i64 a1_1, .int .i64 a1_2] false)).n) 0 [.int .i64 0, .int .i64 0, .int .i64 0, .int .i64 0]).bind fun H8 =>
    (H8.ldI .i64 (((H.push (.cells [.int .i64 a0_0, .int .i64 a0_1, .int .i64 a0_2] false)).push (.cells [.int .i64 a1_0, .int .i64 a1_1, .int .i64 a1_2] false)).n) 0).bind fun x9 =>
    (H8.ldI .i64 (((H.push (.cells [.int .i64 a0_0, .int .i64 a0_1, .int .i64 a0_2] false)).push (.cells [.int .i64 a1_0, .int .i64 a1_1, .int .i64 a1_2] false)).n) (0 + 1)).bind fun x10 =>
    (H8.ldI .i64 (((H.push (.cells [.int .i64 a0_0, .int .i64 a0_1, .int .i64 a0_2] false)).push (.cells [.int .i64 a1_0, .int .i64 a1_1, .int .i64 a1_2] false)).n) (0 + 2)).bind fun x11 =>
    (H8.ldI .i64 (((H.push (.cells [.int .i64 a0_0, .int .i64 a0_1, .int .i64 a0_2] false)).push (.cells [.int .i64 a1_0, .int .i64 a1_1, .int .i64 a1_2] false)).n) (0 + 3)).bind fun x12 =>
    some ((x9, x10, x11, x12, false), H8))
  else
    ((H1.ldI .i64 H.n (0 + 2)).bind fun x13 =>
    (H1.ldI .i64 ((H.push (.cells [.int .i64 a0_0, .int .i64 a0_1, .int .i64 a0_2] false)).n) (0 + 1)).bind fun x14 =>
    (H1.ldI .i64 ((H.push (.cells [.int .i64 a0_0, .int .i64 a0_1, .int .i64 a0_2] false)).n) (0 + 2)).bind fun x15 =>
    (H1.ldI .i64 H.n (0 + 1)).bind fun x16 =>
    (r100 (w64 ((w64 (x13 * x14)) - (w64 (x15 * x16)))) p6.1 H0).bind fun p17 =>
    (H1.ldI .i64 H.n (0 + 0)).bind fun x18 =>
    (H1.ldI .i64 ((H.push (.cells [.int .i64 a0_0, .int .i64 a0_1, .int .i64 a0_2] false)).n) (0 + 2)).bind fun x19 =>
    (H1.ldI .i64 ((H.push (.cells [.int .i64 a0_0, .int .i64 a0_1, .int .i64 a0_2] false)).n) (0 + 0)).bind fun x20 =>
    (H1.ldI .i64 H.n (0 + 2)).bind fun x21 =>
    (r100 (w64 ((w64 (x18 * x19)) - (w64 (x20 * x21)))) p6.1 H0).bind fun p22 =>
    (H1.sts (((H.push (.cells [.int .i64 a0_0, .int .i64 a0_1, .int .i64 a0_2] false)).push (.cells [.int .i64 a1_0, .int .i64 a1_1, .int .i64 a1_2] false)).n) 0 [.int .i64 p17.1.1, .int .i64 p17.1.2, .int .i64 p22.1.1, .int .i64 p22.1.2]).bind fun H23 =>
    (H23.ldI .i64 (((H.push (.cells [.int .i64 a0_0, .int .i64 a0_1, .int .i64 a0_2] false)).push (.cells [.int .i64 a1_0, .int .i64 a1_1, .int .i64 a1_2] false)).n) 0).bind fun x24 =>
    (H23.ldI .i64 (((H.push (.cells [.int .i64 a0_0, .int .i64 a0_1, .int .i64 a0_2] false)).push (.cells [.int .i64 a1_0, .int .i64 a1_1, .int .i64 a1_2] false)).n) (0 + 1)).bind fun x25 =>
    (H23.ldI .i64 (((H.push (.cells [.int .i64 a0_0, .int .i64 a0_1, .int .i64 a0_2] false)).push (.cells [.int .i64 a1_0, .int .i64 a1_1, .int .i64 a1_2] false)).n) (0 + 2)).bind fun x26 =>
    (H23.ldI .i64 (((H.push (.cells [.int .i64 a0_0, .int .i64 a0_1, .int .i64 a0_2] false)).push (.cells [.int .i64 a1_0, .int .i64 a1_1, .int .i64 a1_2] false)).n) (0 + 3)).bind fun x27 =>
    some ((x24, x25, x26, x27, true), H23))
end Go.Lt.P2
