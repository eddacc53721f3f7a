/- PRINTED BY A PROGRAM OF OURS: what each function that 'ChestNobody' reaches computes on the abstract heap, and that the translated code does just that. Nothing is asked of the input. -/
import Derived.Test.YtnigfapfghgmnaaGreatDoorG8R0
set_option linter.unusedVariables false
set_option linter.unusedSimpArgs false
set_option maxRecDepth 100000
set_option maxHeartbeats 4000000
namespace Go.Lt.P10
open Go Go.Lt Go.Proofs
/- 39 (*congou/chest.state).ask -/
def ret39 : ByteArray × Int → AV := fun r => .tup [.str r.1, .int .i64 r.2]
noncomputable def r39_j0 (app : App) (v1 : ByteArray) (v2 : ByteArray) (v3 : ByteArray) (v4 : AV) (H : Hp) : Option ((ByteArray × Int) × Hp) :=
  (r49 app v3 v1 H).bind fun p1 =>
  ((p1.2.push (.cells [.sl ⟨true, 0, 0, 0, 0, 0⟩, .sl ⟨true, 0, 0, 0, 0, 0⟩] false)).sts p1.2.n 0 [.sl p1.1.1, .sl p1.1.2.1]).bind fun H2 =>
  if p1.1.2.2 = true then
    ((H2.ldSl p1.2.n 0).bind fun x4 =>
    (H2.ldSl p1.2.n (0 + 1)).bind fun x5 =>
    (callv app v4 [.agg [.sl x4, .sl x5]] H2).bind fun p6 =>
    (p6.1.asT).bind fun x7 =>
    ck (x7.length = 2) (
    (x7[0]?).bind fun x9 =>
    (x9.asSl).bind fun x10 =>
    (x7[1]?).bind fun x11 =>
    (x11.asI .i64).bind fun x12 =>
    if x12 ≠ 0 then
      (some (((ByteArray.mk #[]), x12), p6.2))
    else
      (((p6.2.push (.cells [.str v2] false)).lds x10.b x10.o (x10.len * 1)).bind fun x14 =>
      ck (x14.all AV.one = true) (
      ((p6.2.push (.cells [.str v2] false)).app 1 ⟨false, p6.2.n, 0, 1, 1, 0⟩ x14 x10.len).bind fun x16 =>
      (app 55 [.sl x16.1, .str (ByteArray.mk #[32])] x16.2).bind fun p17 =>
      (p17.1.asStr).bind fun x18 =>
      some ((x18, 0), p17.2)))))
  else
    (some (((ByteArray.mk #[]), 3), H2))
noncomputable def r39 (app : App) (a0b : Nat) (a0o : Nat) (a1 : ByteArray) (H : Hp) : Option ((ByteArray × Int) × Hp) :=
  (r42 app a1 (ByteArray.mk #[32]) H).bind fun p1 =>
  if (strEq p1.1.1 (ByteArray.mk #[103, 97, 112])) = true then
    (r39_j0 app a1 p1.1.1 (ByteArray.mk #[]) (.fn 60 [.ptr a0b a0o] []) p1.2)
  else
    (if (strEq p1.1.1 (ByteArray.mk #[104, 101, 97, 118, 121])) = true then
      (r39_j0 app a1 p1.1.1 (ByteArray.mk #[100]) (.fn 61 [.ptr a0b a0o] []) p1.2)
    else
      (if (strEq p1.1.1 (ByteArray.mk #[111, 102, 116, 101, 110])) = true then
        (r39_j0 app a1 p1.1.1 (ByteArray.mk #[110]) (.fn 62 [.ptr a0b a0o] []) p1.2)
      else
        (if (strEq p1.1.1 (ByteArray.mk #[116, 97, 105, 108])) = true then
          (r39_j0 app a1 p1.1.1 (ByteArray.mk #[]) (.fn 63 [.ptr a0b a0o] []) p1.2)
        else
          (if (strEq p1.1.1 (ByteArray.mk #[102, 97, 105, 114])) = true then
            (r39_j0 app a1 p1.1.1 (ByteArray.mk #[100, 100]) (.fn 64 [.ptr a0b a0o] []) p1.2)
          else
            (if (strEq p1.1.1 (ByteArray.mk #[114, 111, 117, 110, 100])) = true then
              (r39_j0 app a1 p1.1.1 (ByteArray.mk #[100]) (.fn 65 [] []) p1.2)
            else
              (if (strEq p1.1.1 (ByteArray.mk #[99, 117, 114, 118, 101])) = true then
                (r39_j0 app a1 p1.1.1 (ByteArray.mk #[100]) (.fn 66 [] []) p1.2)
              else
                (if (strEq p1.1.1 (ByteArray.mk #[115, 113, 117, 97, 114, 101])) = true then
                  (r39_j0 app a1 p1.1.1 (ByteArray.mk #[100, 100, 100, 100]) (.fn 67 [] []) p1.2)
                else
                  (if (strEq p1.1.1 (ByteArray.mk #[114, 111, 119])) = true then
                    (r39_j0 app a1 p1.1.1 (ByteArray.mk #[100, 100]) (.fn 68 [] []) p1.2)
                  else
                    (if (strEq p1.1.1 (ByteArray.mk #[108, 101, 97, 115, 116])) = true then
                      (r39_j0 app a1 p1.1.1 (ByteArray.mk #[100]) (.fn 69 [] []) p1.2)
                    else
                      (some (((ByteArray.mk #[]), 3), p1.2)))))))))))
/- 27 (*congou/chest.Chest).Ask -/
def ret27 : ByteArray × Int → AV := fun r => .tup [.str r.1, .int .i64 r.2]
noncomputable def r27 (app : App) (a0 : AV) (a1 : ByteArray) (H : Hp) : Option ((ByteArray × Int) × Hp) :=
  (r28 a0 H).bind fun p1 =>
  if p1.1 = true then
    (some (((ByteArray.mk #[]), 1), p1.2))
  else
    ((a0.asP).bind fun x3 =>
    (r33 x3.1 x3.2 p1.2).bind fun p4 =>
    (r39 app p4.1.1 p4.1.2 a1 p4.2).bind fun p5 =>
    some ((p5.1.1, p5.1.2), p5.2))
/- 13 congou/congoulaw10.awake -/
def ret13 : Bool → AV := fun r => .bool r
noncomputable def r13 (app : App) (H : Hp) : Option (Bool × Hp) :=
  (r14 H).bind fun p1 =>
  (r18 app (.ptr p1.1.1 p1.1.2) (ByteArray.mk #[108, 101, 97, 102, 32, 97, 109, 97, 32, 51]) p1.2).bind fun p2 =>
  (r27 app (.ptr p1.1.1 p1.1.2) (ByteArray.mk #[103, 97, 112]) p2.2).bind fun p3 =>
  if p2.1.2 = 0 then
    (if p3.1.2 = 0 then
      (if (strEq p2.1.1 (ByteArray.mk #[108, 101, 97, 102])) = true then
        (if (strEq p3.1.1 (ByteArray.mk #[103, 97, 112, 32, 48])) = true then
          ((r15 (.ptr p1.1.1 p1.1.2) p3.2).bind fun p8 =>
          some ((decide (p8.1 = 1)), p8.2))
        else
          (some (false, p3.2)))
      else
        (some (false, p3.2)))
    else
      (some (false, p3.2)))
  else
    (some (false, p3.2))
/- 16 (*congou/chest.Chest).Path -/
def ret16 : Sl → AV := fun r => .sl r
noncomputable def r16 (a0 : AV) (H : Hp) : Option (Sl × Hp) :=
  (r28 a0 H).bind fun p1 =>
  if p1.1 = true then
    (some (⟨true, 0, 0, 0, 0, 0⟩, p1.2))
  else
    ((a0.asP).bind fun x3 =>
    (p1.2.ldI .i64 x3.1 (x3.2 + 1)).bind fun x4 =>
    none)
/- 17 (*congou/chest.Chest).Bytes -/
def ret17 : Sl → AV := fun r => .sl r
noncomputable def r17_l0 : Nat → Sl → Sl → Int → Int → Hp → Option (Sl × Hp)
  | 0, _, _, _, _, _ => none
  | k_ + 1, v1, v2, v3, v4, H => if v4 < v3 then
    (ck ((0 : Int) ≤ v4 ∧ v4 < (v2.len : Int)) (
    (H.ldStr v2.b (v2.o + (v4 : Int).toNat * 3)).bind fun x3 =>
    (H.ldI .i64 v2.b ((v2.o + (v4 : Int).toNat * 3) + 1)).bind fun x4 =>
    (H.ldP v2.b ((v2.o + (v4 : Int).toNat * 3) + 2)).bind fun x5 =>
    ((H.push (.cells [.str (ByteArray.mk #[]), .int .i64 0, .nilptr] false)).sts H.n 0 [.str x3, .int .i64 x4, .ptr x5.1 x5.2]).bind fun H6 =>
    (H6.ldI .i64 H.n (0 + 1)).bind fun x7 =>
    (H6.ldStr H.n (0 + 0)).bind fun x8 =>
    (H6.apN 1 v1 [.int .u8 (IntKind.wrap .u8 (x7)), .int .u8 (IntKind.wrap .u8 ((x8.size : Int)))] 2).bind fun x9 =>
    (x9.2.ldStr H.n (0 + 0)).bind fun x10 =>
    (x9.2.app 1 x9.1 (bytesAV x10) x10.size).bind fun x11 =>
    r17_l0 k_ x11.1 v2 v3 (w64 (v4 + 1)) x11.2))
  else
    (some (v1, H))
noncomputable def r17 (a0 : AV) (H : Hp) : Option (Sl × Hp) :=
  (r28 a0 H).bind fun p1 =>
  if p1.1 = true then
    (some (⟨true, 0, 0, 0, 0, 0⟩, p1.2))
  else
    ((a0.asP).bind fun x3 =>
    (p1.2.ldSl x3.1 (x3.2 + 0)).bind fun x4 =>
    ck (((0 : Int) ≤ 1 ∧ 1 ≤ (x4.len : Int) ∧ (x4.len : Int) ≤ (x4.cap : Int)) ∧ (x4.opn = 0 ∨ x4.opn = 3)) (
    r17_l0 FUEL ⟨true, 0, 0, 0, 0, 0⟩ (x4.cut 3 (1 : Int).toNat ((x4.len : Int) : Int).toNat) ((x4.cut 3 (1 : Int).toNat ((x4.len : Int) : Int).toNat).len : Int) 0 p1.2))
/- 19 (*congou/chest.Chest).Back -/
def ret19 : Int → AV := fun r => .int .i64 r
noncomputable def r19 (a0 : AV) (a1 : Int) (H : Hp) : Option (Int × Hp) :=
  (r28 a0 H).bind fun p1 =>
  if p1.1 = true then
    (some (1, p1.2))
  else
    (if a1 < 0 then
      (some (2, p1.2))
    else
      ((a0.asP).bind fun x4 =>
      (p1.2.ldI .i64 x4.1 (x4.2 + 1)).bind fun x5 =>
      none))
/- 22 (*congou/chest.Chest).Children -/
def ret22 : Sl → AV := fun r => .sl r
noncomputable def r22_j1 (kt0 : AV → Sl → Sl → Int → Int → Hp → Option (Sl × Hp)) (v1 : AV) (v2 : Sl) (v3 : Int) (v4 : Sl) (v5 : Int) (v6 : Int) (v7 : Bool) (H : Hp) : Option (Sl × Hp) :=
  if v7 = true then
    ((H.apN 1 v2 [.int .i64 v3] 1).bind fun x2 =>
    kt0 v1 x2.1 v4 v5 (w64 (v6 + 1)) x2.2)
  else
    (kt0 v1 v2 v4 v5 (w64 (v6 + 1)) H)
noncomputable def r22_l0 : Nat → AV → Sl → Sl → Int → Int → Hp → Option (Sl × Hp)
  | 0, _, _, _, _, _, _ => none
  | k_ + 1, v1, v2, v3, v4, v5, H => if v5 < v4 then
    (ck ((0 : Int) ≤ v5 ∧ v5 < (v3.len : Int)) (
    (H.ldStr v3.b (v3.o + (v5 : Int).toNat * 3)).bind fun x3 =>
    (H.ldI .i64 v3.b ((v3.o + (v5 : Int).toNat * 3) + 1)).bind fun x4 =>
    (H.ldP v3.b ((v3.o + (v5 : Int).toNat * 3) + 2)).bind fun x5 =>
    ((H.push (.cells [.str (ByteArray.mk #[]), .int .i64 0, .nilptr] false)).sts H.n 0 [.str x3, .int .i64 x4, .ptr x5.1 x5.2]).bind fun H6 =>
    if 0 < v5 then
      ((H6.ldI .i64 H.n (0 + 1)).bind fun x8 =>
      (v1.asP).bind fun x9 =>
      (H6.ldI .i64 x9.1 (x9.2 + 1)).bind fun x10 =>
      r22_j1 (fun v1_ v2_ v3_ v4_ v5_ H_ => r22_l0 k_ v1_ v2_ v3_ v4_ v5_ H_) v1 v2 v5 v3 v4 v5 (decide (x8 = x10)) H6)
    else
      (r22_j1 (fun v1_ v2_ v3_ v4_ v5_ H_ => r22_l0 k_ v1_ v2_ v3_ v4_ v5_ H_) v1 v2 v5 v3 v4 v5 false H6)))
  else
    (some (v2, H))
noncomputable def r22 (a0 : AV) (H : Hp) : Option (Sl × Hp) :=
  (r28 a0 H).bind fun p1 =>
  if p1.1 = true then
    (some (⟨true, 0, 0, 0, 0, 0⟩, p1.2))
  else
    ((a0.asP).bind fun x3 =>
    (p1.2.ldSl x3.1 (x3.2 + 0)).bind fun x4 =>
    r22_l0 FUEL a0 ⟨true, 0, 0, 0, 0, 0⟩ x4 (x4.len : Int) 0 p1.2)
/- 24 (*congou/chest.Chest).State -/
def ret24 : ByteArray → AV := fun r => .str r
noncomputable def r24 (a0 : AV) (H : Hp) : Option (ByteArray × Hp) :=
  (r28 a0 H).bind fun p1 =>
  if p1.1 = true then
    (some ((ByteArray.mk #[]), p1.2))
  else
    ((a0.asP).bind fun x3 =>
    (r33 x3.1 x3.2 p1.2).bind fun p4 =>
    none)
/- 25 (*congou/chest.Chest).Move -/
def ret25 : Int × Int → AV := fun r => .tup [.int .i64 r.1, .int .i64 r.2]
noncomputable def r25 (app : App) (a0 : AV) (a1 : Int) (H : Hp) : Option ((Int × Int) × Hp) :=
  (r28 a0 H).bind fun p1 =>
  if p1.1 = true then
    (some ((0, 1), p1.2))
  else
    (none)
/- 8 congou/congoulaw10.ChestNobody -/
def ret8 : Bool → AV := fun r => .bool r
noncomputable def r8_j1 (app : App) (kt0 : ByteArray → Int → Int → Sl → Int → Int → Hp → Option (Bool × Hp)) (v1 : ByteArray) (v2 : Int) (v3 : Int) (v4 : Sl) (v5 : Int) (v6 : Int) (v7 : Bool) (H : Hp) : Option (Bool × Hp) :=
  if v7 = true then
    (some (false, H))
  else
    (kt0 v1 v2 v3 v4 v5 (w64 (v6 + 1)) H)
noncomputable def r8_l0 (app : App) : Nat → ByteArray → Int → Int → Sl → Int → Int → Hp → Option (Bool × Hp)
  | 0, _, _, _, _, _, _, _ => none
  | k_ + 1, v1, v2, v3, v4, v5, v6, H => if v6 < v5 then
    (ck ((0 : Int) ≤ v6 ∧ v6 < (v4.len : Int)) (
    (H.ldV v4.b (v4.o + (v6 : Int).toNat * 1)).bind fun x3 =>
    (r18 app x3 v1 H).bind fun p4 =>
    (r27 app x3 v1 p4.2).bind fun p5 =>
    (r11 x3 v2 v3 p5.2).bind fun p6 =>
    (r25 app x3 v2 p6.2).bind fun p7 =>
    if (strEq p4.1.1 (ByteArray.mk #[])) = true then
      (if (strEq p5.1.1 (ByteArray.mk #[])) = true then
        (if p6.1.1 ≠ 0 then
          (r8_j1 app (fun v1_ v2_ v3_ v4_ v5_ v6_ H_ => r8_l0 app k_ v1_ v2_ v3_ v4_ v5_ v6_ H_) v1 v2 v3 v4 v5 v6 true p7.2)
        else
          (if p7.1.1 ≠ 0 then
            (r8_j1 app (fun v1_ v2_ v3_ v4_ v5_ v6_ H_ => r8_l0 app k_ v1_ v2_ v3_ v4_ v5_ v6_ H_) v1 v2 v3 v4 v5 v6 true p7.2)
          else
            (if p4.1.2 ≠ 1 then
              (r8_j1 app (fun v1_ v2_ v3_ v4_ v5_ v6_ H_ => r8_l0 app k_ v1_ v2_ v3_ v4_ v5_ v6_ H_) v1 v2 v3 v4 v5 v6 true p7.2)
            else
              (if p5.1.2 ≠ 1 then
                (r8_j1 app (fun v1_ v2_ v3_ v4_ v5_ v6_ H_ => r8_l0 app k_ v1_ v2_ v3_ v4_ v5_ v6_ H_) v1 v2 v3 v4 v5 v6 true p7.2)
              else
                (if p6.1.2 ≠ 1 then
                  (r8_j1 app (fun v1_ v2_ v3_ v4_ v5_ v6_ H_ => r8_l0 app k_ v1_ v2_ v3_ v4_ v5_ v6_ H_) v1 v2 v3 v4 v5 v6 true p7.2)
                else
                  (if p7.1.2 ≠ 1 then
                    (r8_j1 app (fun v1_ v2_ v3_ v4_ v5_ v6_ H_ => r8_l0 app k_ v1_ v2_ v3_ v4_ v5_ v6_ H_) v1 v2 v3 v4 v5 v6 true p7.2)
                  else
                    ((r10 x3 v2 p7.2).bind fun p16 =>
                    if p16.1 ≠ 1 then
                      (r8_j1 app (fun v1_ v2_ v3_ v4_ v5_ v6_ H_ => r8_l0 app k_ v1_ v2_ v3_ v4_ v5_ v6_ H_) v1 v2 v3 v4 v5 v6 true p16.2)
                    else
                      ((r19 x3 v2 p16.2).bind fun p18 =>
                      if p18.1 ≠ 1 then
                        (r8_j1 app (fun v1_ v2_ v3_ v4_ v5_ v6_ H_ => r8_l0 app k_ v1_ v2_ v3_ v4_ v5_ v6_ H_) v1 v2 v3 v4 v5 v6 true p18.2)
                      else
                        ((r15 x3 p18.2).bind fun p20 =>
                        if p20.1 ≠ 0 then
                          (r8_j1 app (fun v1_ v2_ v3_ v4_ v5_ v6_ H_ => r8_l0 app k_ v1_ v2_ v3_ v4_ v5_ v6_ H_) v1 v2 v3 v4 v5 v6 true p20.2)
                        else
                          ((r16 x3 p20.2).bind fun p22 =>
                          (r22 x3 p22.2).bind fun p23 =>
                          (r17 x3 p23.2).bind fun p24 =>
                          if (w64 ((w64 ((p22.1.len : Int) + (p23.1.len : Int))) + (p24.1.len : Int))) ≠ 0 then
                            (r8_j1 app (fun v1_ v2_ v3_ v4_ v5_ v6_ H_ => r8_l0 app k_ v1_ v2_ v3_ v4_ v5_ v6_ H_) v1 v2 v3 v4 v5 v6 true p24.2)
                          else
                            ((r24 x3 p24.2).bind fun p26 =>
                            r8_j1 app (fun v1_ v2_ v3_ v4_ v5_ v6_ H_ => r8_l0 app k_ v1_ v2_ v3_ v4_ v5_ v6_ H_) v1 v2 v3 v4 v5 v6 (!(strEq p26.1 (ByteArray.mk #[]))) p26.2)))))))))))
      else
        (r8_j1 app (fun v1_ v2_ v3_ v4_ v5_ v6_ H_ => r8_l0 app k_ v1_ v2_ v3_ v4_ v5_ v6_ H_) v1 v2 v3 v4 v5 v6 true p7.2))
    else
      (r8_j1 app (fun v1_ v2_ v3_ v4_ v5_ v6_ H_ => r8_l0 app k_ v1_ v2_ v3_ v4_ v5_ v6_ H_) v1 v2 v3 v4 v5 v6 true p7.2)))
  else
    ((app 13 [] H).bind fun p27 =>
    (p27.1.asB).bind fun x28 =>
    some (x28, p27.2))
noncomputable def r8 (app : App) (a0 : ByteArray) (a1 : Int) (a2 : Int) (H : Hp) : Option (Bool × Hp) :=
  lt ((H.push (.cells [.sl ⟨true, 0, 0, 0, 0, 0⟩, .int .i64 0] false)).push (.cells [.nilptr, .ptr H.n 0] false)) fun H1 =>
  r8_l0 app FUEL a0 a1 a2 ⟨false, (H.push (.cells [.sl ⟨true, 0, 0, 0, 0, 0⟩, .int .i64 0] false)).n, 0, 2, 2, 0⟩ ((⟨false, (H.push (.cells [.sl ⟨true, 0, 0, 0, 0, 0⟩, .int .i64 0] false)).n, 0, 2, 2, 0⟩ : Sl).len : Int) 0 H1
/- 101 slices.IndexFunc[[]congou/chest.leaf,congou/chest.leaf] -/
def ret101 : Int → AV := fun r => .int .i64 r
noncomputable def r101_l0 (app : App) : Nat → Sl → AV → Int → Int → Hp → Option (Int × Hp)
  | 0, _, _, _, _, _ => none
  | k_ + 1, v1, v2, v3, v4, H => if v4 < v3 then
    (ck ((0 : Int) ≤ v4 ∧ v4 < (v1.len : Int)) (
    (H.ldStr v1.b (v1.o + (v4 : Int).toNat * 2)).bind fun x3 =>
    (H.ldI .i64 v1.b ((v1.o + (v4 : Int).toNat * 2) + 1)).bind fun x4 =>
    (callv app v2 [.agg [.str x3, .int .i64 x4]] H).bind fun p5 =>
    (p5.1.asB).bind fun x6 =>
    if x6 = true then
      (some (v4, p5.2))
    else
      (r101_l0 app k_ v1 v2 v3 (w64 (v4 + 1)) p5.2)))
  else
    (some ((-1), H))
noncomputable def r101 (app : App) (a0 : Sl) (a1 : AV) (H : Hp) : Option (Int × Hp) :=
  r101_l0 app FUEL a0 a1 (a0.len : Int) 0 H
/- 75 (*congou/chest.state).find -/
def ret75 : Int → AV := fun r => .int .i64 r
noncomputable def r75 (app : App) (a0b : Nat) (a0o : Nat) (a1 : ByteArray) (H : Hp) : Option (Int × Hp) :=
  lt (H.push (.cells [.str a1] false)) fun H1 =>
  (H1.ldSl a0b (a0o + 0)).bind fun x2 =>
  (r101 app x2 (.fn 102 [] [.ptr H.n 0]) H1).bind fun p3 =>
  some (p3.1, p3.2)
/- 44 (*congou/chest.state).leaf -/
def ret44 : Int → AV := fun r => .int .i64 r
noncomputable def r44 (app : App) (a0b : Nat) (a0o : Nat) (a1_0 : Sl) (a1_1 : Sl) (H : Hp) : Option (Int × Hp) :=
  lt (H.push (.cells [.sl a1_0, .sl a1_1] false)) fun H1 =>
  (H1.ldSl H.n (0 + 0)).bind fun x2 =>
  ck ((0 : Int) ≤ 0 ∧ 0 < (x2.len : Int)) (
  (H1.ldStr x2.b (x2.o + (0 : Int).toNat * 1)).bind fun x4 =>
  (r75 app a0b a0o x4 H1).bind fun p5 =>
  if 0 ≤ p5.1 then
    (some (5, p5.2))
  else
    ((p5.2.ldSl H.n (0 + 1)).bind fun x7 =>
    ck ((0 : Int) ≤ 0 ∧ 0 < (x7.len : Int)) (
    (p5.2.ldI .i64 x7.b (x7.o + (0 : Int).toNat * 1)).bind fun x9 =>
    if 20 < x9 then
      (some (2, p5.2))
    else
      ((p5.2.ldSl a0b (a0o + 0)).bind fun x11 =>
      if (x11.len : Int) = 6 then
        (some (7, p5.2))
      else
        ((p5.2.ldSl a0b (a0o + 0)).bind fun x13 =>
        (p5.2.ldSl H.n (0 + 0)).bind fun x14 =>
        ck ((0 : Int) ≤ 0 ∧ 0 < (x14.len : Int)) (
        (p5.2.ldStr x14.b (x14.o + (0 : Int).toNat * 1)).bind fun x16 =>
        (p5.2.ldSl H.n (0 + 1)).bind fun x17 =>
        ck ((0 : Int) ≤ 0 ∧ 0 < (x17.len : Int)) (
        (p5.2.ldI .i64 x17.b (x17.o + (0 : Int).toNat * 1)).bind fun x19 =>
        (p5.2.apN 2 x13 [.str x16, .int .i64 x19] 1).bind fun x20 =>
        (x20.2.st a0b (a0o + 0) (.sl x20.1)).bind fun H21 =>
        some (0, H21))))))))
/- 51 (*congou/chest.Chest).child$1 -/
def ret51 : Bool → AV := fun r => .bool r
noncomputable def r51 (a0_0 : ByteArray) (a0_1 : Int) (a0_2b : Nat) (a0_2o : Nat) (c0 : Nat) (c1 : Nat) (H : Hp) : Option (Bool × Hp) :=
  lt (H.push (.cells [.str a0_0, .int .i64 a0_1, .ptr a0_2b a0_2o] false)) fun H1 =>
  (H1.ldStr H.n (0 + 0)).bind fun x2 =>
  (H1.ldStr c0 0).bind fun x3 =>
  if (strEq x2 x3) = true then
    ((H1.ldI .i64 H.n (0 + 1)).bind fun x5 =>
    (H1.ldI .i64 c1 0).bind fun x6 =>
    if x5 = x6 then
      ((H1.ldStr H.n (0 + 0)).bind fun x8 =>
      some ((!(strEq x8 (ByteArray.mk #[]))), H1))
    else
      (some (false, H1)))
  else
    (some (false, H1))
/- 57 congou/chest.numbers -/
def ret57 : Sl → AV := fun r => .sl r
noncomputable def r57_l0 (app : App) : Nat → Sl → Sl → Int → Int → Hp → Option (Sl × Hp)
  | 0, _, _, _, _, _ => none
  | k_ + 1, v1, v2, v3, v4, H => if v4 < v3 then
    (ck ((0 : Int) ≤ v4 ∧ v4 < (v2.len : Int)) (
    (H.ldI .i64 v2.b (v2.o + (v4 : Int).toNat * 1)).bind fun x3 =>
    (r53 app x3 H).bind fun p4 =>
    (p4.2.apN 1 v1 [.str p4.1] 1).bind fun x5 =>
    r57_l0 app k_ x5.1 v2 v3 (w64 (v4 + 1)) x5.2))
  else
    (some (v1, H))
noncomputable def r57 (app : App) (a0 : Sl) (H : Hp) : Option (Sl × Hp) :=
  r57_l0 app FUEL ⟨true, 0, 0, 0, 0, 0⟩ a0 (a0.len : Int) 0 H
/- 76 (*congou/chest.state).stocks -/
def ret76 : Sl → AV := fun r => .sl r
noncomputable def r76_l0 : Nat → Sl → Sl → Int → Int → Hp → Option (Sl × Hp)
  | 0, _, _, _, _, _ => none
  | k_ + 1, v1, v2, v3, v4, H => if v4 < v3 then
    (ck ((0 : Int) ≤ v4 ∧ v4 < (v2.len : Int)) (
    (H.ldStr v2.b (v2.o + (v4 : Int).toNat * 2)).bind fun x3 =>
    (H.ldI .i64 v2.b ((v2.o + (v4 : Int).toNat * 2) + 1)).bind fun x4 =>
    ((H.push (.cells [.str (ByteArray.mk #[]), .int .i64 0] false)).sts H.n 0 [.str x3, .int .i64 x4]).bind fun H5 =>
    (H5.ldI .i64 H.n (0 + 1)).bind fun x6 =>
    (H5.apN 1 v1 [.int .i64 x6] 1).bind fun x7 =>
    r76_l0 k_ x7.1 v2 v3 (w64 (v4 + 1)) x7.2))
  else
    (some (v1, H))
noncomputable def r76 (a0b : Nat) (a0o : Nat) (H : Hp) : Option (Sl × Hp) :=
  (H.ldSl a0b (a0o + 0)).bind fun x1 =>
  r76_l0 FUEL ⟨true, 0, 0, 0, 0, 0⟩ x1 (x1.len : Int) 0 H
/- 156 slices.Min[[]int,int] -/
def ret156 : Int → AV := fun r => .int .i64 r
noncomputable def r156_l0 : Nat → Sl → Int → Int → Hp → Option (Int × Hp)
  | 0, _, _, _, _ => none
  | k_ + 1, v1, v2, v3, H => if v3 < (v1.len : Int) then
    (ck ((0 : Int) ≤ v3 ∧ v3 < (v1.len : Int)) (
    (H.ldI .i64 v1.b (v1.o + (v3 : Int).toNat * 1)).bind fun x3 =>
    r156_l0 k_ v1 (if x3 < v2 then x3 else v2) (w64 (v3 + 1)) H))
  else
    (some (v2, H))
noncomputable def r156 (a0 : Sl) (H : Hp) : Option (Int × Hp) :=
  if (a0.len : Int) < 1 then
    (none)
  else
    (ck ((0 : Int) ≤ 0 ∧ 0 < (a0.len : Int)) (
    (H.ldI .i64 a0.b (a0.o + (0 : Int).toNat * 1)).bind fun x3 =>
    r156_l0 FUEL a0 x3 1 H))
/- 157 slices.Max[[]int,int] -/
def ret157 : Int → AV := fun r => .int .i64 r
noncomputable def r157_l0 : Nat → Sl → Int → Int → Hp → Option (Int × Hp)
  | 0, _, _, _, _ => none
  | k_ + 1, v1, v2, v3, H => if v3 < (v1.len : Int) then
    (ck ((0 : Int) ≤ v3 ∧ v3 < (v1.len : Int)) (
    (H.ldI .i64 v1.b (v1.o + (v3 : Int).toNat * 1)).bind fun x3 =>
    r157_l0 k_ v1 (if v2 < x3 then x3 else v2) (w64 (v3 + 1)) H))
  else
    (some (v2, H))
noncomputable def r157 (a0 : Sl) (H : Hp) : Option (Int × Hp) :=
  if (a0.len : Int) < 1 then
    (none)
  else
    (ck ((0 : Int) ≤ 0 ∧ 0 < (a0.len : Int)) (
    (H.ldI .i64 a0.b (a0.o + (0 : Int).toNat * 1)).bind fun x3 =>
    r157_l0 FUEL a0 x3 1 H))
/- 103 congou/shares.are -/
def ret103 : Bool → AV := fun r => .bool r
noncomputable def r103_j1 (kt0 : Sl → Sl → Int → Int → Hp → Option (Bool × Hp)) (v1 : Sl) (v2 : Sl) (v3 : Int) (v4 : Int) (v5 : Bool) (H : Hp) : Option (Bool × Hp) :=
  if v5 = true then
    (some (false, H))
  else
    (kt0 v1 v2 v3 (w64 (v4 + 1)) H)
noncomputable def r103_l0 : Nat → Sl → Sl → Int → Int → Hp → Option (Bool × Hp)
  | 0, _, _, _, _, _ => none
  | k_ + 1, v1, v2, v3, v4, H => if v4 < v3 then
    (ck ((0 : Int) ≤ v4 ∧ v4 < (v2.len : Int)) (
    (H.ldSl v2.b (v2.o + (v4 : Int).toNat * 1)).bind fun x3 =>
    if (x3.len : Int) < 1 then
      (r103_j1 (fun v1_ v2_ v3_ v4_ H_ => r103_l0 k_ v1_ v2_ v3_ v4_ H_) v1 v2 v3 v4 true H)
    else
      (if 6 < (x3.len : Int) then
        (r103_j1 (fun v1_ v2_ v3_ v4_ H_ => r103_l0 k_ v1_ v2_ v3_ v4_ H_) v1 v2 v3 v4 true H)
      else
        (ck ((0 : Int) ≤ 0 ∧ 0 < (v1.len : Int)) (
        (H.ldSl v1.b (v1.o + (0 : Int).toNat * 1)).bind fun x7 =>
        if (x3.len : Int) ≠ (x7.len : Int) then
          (r103_j1 (fun v1_ v2_ v3_ v4_ H_ => r103_l0 k_ v1_ v2_ v3_ v4_ H_) v1 v2 v3 v4 true H)
        else
          ((r156 x3 H).bind fun p9 =>
          if p9.1 < 0 then
            (r103_j1 (fun v1_ v2_ v3_ v4_ H_ => r103_l0 k_ v1_ v2_ v3_ v4_ H_) v1 v2 v3 v4 true p9.2)
          else
            ((r157 x3 p9.2).bind fun p11 =>
            r103_j1 (fun v1_ v2_ v3_ v4_ H_ => r103_l0 k_ v1_ v2_ v3_ v4_ H_) v1 v2 v3 v4 (decide (20 < p11.1)) p11.2)))))))
  else
    (some (true, H))
noncomputable def r103 (a0 : Sl) (H : Hp) : Option (Bool × Hp) :=
  r103_l0 FUEL a0 a0 (a0.len : Int) 0 H
/- 87 congou/shares.Gap -/
def ret87 : Int × Int → AV := fun r => .tup [.int .i64 r.1, .int .i64 r.2]
noncomputable def r87_l1 (kt0 : Sl → Int → Sl → Int → Int → Hp → Option ((Int × Int) × Hp)) : Nat → Sl → Int → Int → Sl → Int → Int → Sl → Int → Int → Hp → Option ((Int × Int) × Hp)
  | 0, _, _, _, _, _, _, _, _, _, _ => none
  | k_ + 1, v1, v2, v3, v4, v5, v6, v7, v8, v9, H => if v9 < v8 then
    (ck ((0 : Int) ≤ v9 ∧ v9 < (v7.len : Int)) (
    (H.ldI .i64 v7.b (v7.o + (v9 : Int).toNat * 1)).bind fun x3 =>
    r87_l1 kt0 k_ v1 (w64 (v2 + (if (w64 (v3 - x3)) < (w64 (x3 - v3)) then (w64 (x3 - v3)) else (w64 (v3 - x3))))) v3 v4 v5 v6 v7 v8 (w64 (v9 + 1)) H))
  else
    (kt0 v1 v2 v4 v5 (w64 (v6 + 1)) H)
noncomputable def r87_l0 : Nat → Sl → Int → Sl → Int → Int → Hp → Option ((Int × Int) × Hp)
  | 0, _, _, _, _, _, _ => none
  | k_ + 1, v1, v2, v3, v4, v5, H => if v5 < v4 then
    (ck ((0 : Int) ≤ v5 ∧ v5 < (v3.len : Int)) (
    (H.ldI .i64 v3.b (v3.o + (v5 : Int).toNat * 1)).bind fun x3 =>
    ck (((0 : Int) ≤ 0 ∧ 0 ≤ v5 ∧ v5 ≤ (v1.cap : Int)) ∧ (v1.opn = 0 ∨ v1.opn = 1)) (
    r87_l1 (fun v1_ v2_ v3_ v4_ v5_ H_ => r87_l0 k_ v1_ v2_ v3_ v4_ v5_ H_) FUEL v1 v2 x3 v3 v4 v5 (v1.cut 1 (0 : Int).toNat (v5 : Int).toNat) ((v1.cut 1 (0 : Int).toNat (v5 : Int).toNat).len : Int) 0 H)))
  else
    (some ((v2, 0), H))
noncomputable def r87 (a0 : Sl) (H : Hp) : Option ((Int × Int) × Hp) :=
  (r103 ⟨false, H.n, 0, 1, 1, 0⟩ (H.push (.cells [.sl a0] false))).bind fun p1 =>
  if p1.1 = true then
    (r87_l0 FUEL a0 0 a0 (a0.len : Int) 0 p1.2)
  else
    (some ((0, 2), p1.2))
/- 60 (*congou/chest.state).gap -/
def ret60 : Sl × Int → AV := fun r => .tup [.sl r.1, .int .i64 r.2]
noncomputable def r60 (app : App) (a0b : Nat) (a0o : Nat) (a1_0 : Sl) (a1_1 : Sl) (H : Hp) : Option ((Sl × Int) × Hp) :=
  lt (H.push (.cells [.sl a1_0, .sl a1_1] false)) fun H1 =>
  (H1.ldSl a0b (a0o + 0)).bind fun x2 =>
  if (x2.len : Int) = 0 then
    (some ((⟨true, 0, 0, 0, 0, 0⟩, 4), H1))
  else
    ((r76 a0b a0o H1).bind fun p4 =>
    (r87 p4.1 p4.2).bind fun p5 =>
    (r57 app ⟨false, p5.2.n, 0, 1, 1, 0⟩ (p5.2.push (.cells [.int .i64 p5.1.1] false))).bind fun p6 =>
    some ((p6.1, p5.1.2), p6.2))
/- 102 (*congou/chest.state).find$1 -/
def ret102 : Bool → AV := fun r => .bool r
noncomputable def r102 (a0_0 : ByteArray) (a0_1 : Int) (c0 : Nat) (H : Hp) : Option (Bool × Hp) :=
  lt (H.push (.cells [.str a0_0, .int .i64 a0_1] false)) fun H1 =>
  (H1.ldStr H.n (0 + 0)).bind fun x2 =>
  (H1.ldStr c0 0).bind fun x3 =>
  some ((strEq x2 x3), H1)
/- 258 internal/strconv.lower -/
def ret258 : Int → AV := fun r => .int .u8 r
noncomputable def r258 (a0 : Int) (H : Hp) : Option (Int × Hp) :=
  some (bitsOf .or .u8 a0 32, H)
/- 259 internal/strconv.underscoreOK -/
def ret259 : Bool → AV := fun r => .bool r
noncomputable def r259_j5 (kt0 : ByteArray → Int → Int → Bool → Hp → Option (Bool × Hp)) (v1 : ByteArray) (v2 : Int) (v3 : Int) (v4 : Bool) (v5 : Bool) (H : Hp) : Option (Bool × Hp) :=
  if v5 = true then
    (kt0 v1 48 (w64 (v3 + 1)) v4 H)
  else
    (ck ((0 : Int) ≤ v3 ∧ v3 < (v1.size : Int)) (
    if (bt v1 v3) = 95 then
      (if v2 ≠ 48 then
        (some (false, H))
      else
        (kt0 v1 95 (w64 (v3 + 1)) v4 H))
    else
      (if v2 = 95 then
        (some (false, H))
      else
        (kt0 v1 33 (w64 (v3 + 1)) v4 H))))
noncomputable def r259_l0 : Nat → ByteArray → Int → Int → Bool → Hp → Option (Bool × Hp)
  | 0, _, _, _, _, _ => none
  | k_ + 1, v1, v2, v3, v4, H => if v3 < (v1.size : Int) then
    (ck ((0 : Int) ≤ v3 ∧ v3 < (v1.size : Int)) (
    if 48 ≤ (bt v1 v3) then
      (ck ((0 : Int) ≤ v3 ∧ v3 < (v1.size : Int)) (
      if (bt v1 v3) ≤ 57 then
        (r259_j5 (fun v1_ v2_ v3_ v4_ H_ => r259_l0 k_ v1_ v2_ v3_ v4_ H_) v1 v2 v3 v4 true H)
      else
        (if v4 = true then
          (ck ((0 : Int) ≤ v3 ∧ v3 < (v1.size : Int)) (
          (r258 (bt v1 v3) H).bind fun p8 =>
          if 97 ≤ p8.1 then
            (ck ((0 : Int) ≤ v3 ∧ v3 < (v1.size : Int)) (
            (r258 (bt v1 v3) p8.2).bind fun p11 =>
            r259_j5 (fun v1_ v2_ v3_ v4_ H_ => r259_l0 k_ v1_ v2_ v3_ v4_ H_) v1 v2 v3 true (decide (p11.1 ≤ 102)) p11.2))
          else
            (r259_j5 (fun v1_ v2_ v3_ v4_ H_ => r259_l0 k_ v1_ v2_ v3_ v4_ H_) v1 v2 v3 true false p8.2)))
        else
          (r259_j5 (fun v1_ v2_ v3_ v4_ H_ => r259_l0 k_ v1_ v2_ v3_ v4_ H_) v1 v2 v3 false false H))))
    else
      (if v4 = true then
        (ck ((0 : Int) ≤ v3 ∧ v3 < (v1.size : Int)) (
        (r258 (bt v1 v3) H).bind fun p14 =>
        if 97 ≤ p14.1 then
          (ck ((0 : Int) ≤ v3 ∧ v3 < (v1.size : Int)) (
          (r258 (bt v1 v3) p14.2).bind fun p17 =>
          r259_j5 (fun v1_ v2_ v3_ v4_ H_ => r259_l0 k_ v1_ v2_ v3_ v4_ H_) v1 v2 v3 true (decide (p17.1 ≤ 102)) p17.2))
        else
          (r259_j5 (fun v1_ v2_ v3_ v4_ H_ => r259_l0 k_ v1_ v2_ v3_ v4_ H_) v1 v2 v3 true false p14.2)))
      else
        (r259_j5 (fun v1_ v2_ v3_ v4_ H_ => r259_l0 k_ v1_ v2_ v3_ v4_ H_) v1 v2 v3 false false H))))
  else
    (some ((decide (v2 ≠ 95)), H))
noncomputable def r259_j4 (v1 : ByteArray) (v2 : Int) (v3 : Int) (v4 : Bool) (H : Hp) : Option (Bool × Hp) :=
  r259_l0 FUEL v1 v2 v3 v4 H
noncomputable def r259_j1 (v1 : ByteArray) (v2 : Int) (v3 : Int) (v4 : Bool) (v5 : Bool) (H : Hp) : Option (Bool × Hp) :=
  if v5 = true then
    (ck ((0 : Int) ≤ 1 ∧ 1 < (v1.size : Int)) (
    (r258 (bt v1 1) H).bind fun p3 =>
    r259_j4 v1 48 2 (decide (p3.1 = 120)) p3.2))
  else
    (r259_j4 v1 v2 v3 v4 H)
noncomputable def r259_j3 (v1 : ByteArray) (v2 : Int) (v3 : Int) (H : Hp) : Option (Bool × Hp) :=
  if 2 ≤ (v1.size : Int) then
    (ck ((0 : Int) ≤ 0 ∧ 0 < (v1.size : Int)) (
    if (bt v1 0) = 48 then
      (ck ((0 : Int) ≤ 1 ∧ 1 < (v1.size : Int)) (
      (r258 (bt v1 1) H).bind fun p5 =>
      if p5.1 = 98 then
        (r259_j1 v1 v2 v3 false true p5.2)
      else
        (ck ((0 : Int) ≤ 1 ∧ 1 < (v1.size : Int)) (
        (r258 (bt v1 1) p5.2).bind fun p8 =>
        if p8.1 = 111 then
          (r259_j1 v1 v2 v3 false true p8.2)
        else
          (ck ((0 : Int) ≤ 1 ∧ 1 < (v1.size : Int)) (
          (r258 (bt v1 1) p8.2).bind fun p11 =>
          r259_j1 v1 v2 v3 false (decide (p11.1 = 120)) p11.2))))))
    else
      (r259_j1 v1 v2 v3 false false H)))
  else
    (r259_j1 v1 v2 v3 false false H)
noncomputable def r259_j2 (v1 : ByteArray) (v2 : Int) (v3 : Int) (v4 : Bool) (H : Hp) : Option (Bool × Hp) :=
  if v4 = true then
    (ck ((0 : Int) ≤ 1 ∧ 1 ≤ (v1.size : Int) ∧ (v1.size : Int) ≤ (v1.size : Int)) (
    r259_j3 (v1.extract (1 : Int).toNat ((v1.size : Int) : Int).toNat) v2 v3 H))
  else
    (r259_j3 v1 v2 v3 H)
noncomputable def r259 (a0 : ByteArray) (H : Hp) : Option (Bool × Hp) :=
  if 1 ≤ (a0.size : Int) then
    (ck ((0 : Int) ≤ 0 ∧ 0 < (a0.size : Int)) (
    if (bt a0 0) = 45 then
      (r259_j2 a0 94 0 true H)
    else
      (ck ((0 : Int) ≤ 0 ∧ 0 < (a0.size : Int)) (
      r259_j2 a0 94 0 (decide ((bt a0 0) = 43)) H))))
  else
    (r259_j2 a0 94 0 false H)
/- 245 internal/strconv.ParseUint -/
def ret245 : Int × AV → AV := fun r => .tup [.int .u64 r.1, r.2]
noncomputable def r245_j9 (kt0 : Int → Bool → ByteArray → Int → Int → Bool → Int → Sl → Int → Int → Hp → Option ((Int × AV) × Hp)) (v1 : Int) (v2 : Bool) (v3 : ByteArray) (v4 : Int) (v5 : Int) (v6 : Bool) (v7 : Int) (v8 : Sl) (v9 : Int) (v10 : Int) (v11 : Bool) (H : Hp) : Option ((Int × AV) × Hp) :=
  if v11 = true then
    (none)
  else
    (kt0 v1 v2 v3 v4 v5 v6 v7 v8 v9 (w64 (v10 + 1)) H)
noncomputable def r245_j10 (kt0 : Int → Bool → ByteArray → Int → Int → Bool → Int → Sl → Int → Int → Hp → Option ((Int × AV) × Hp)) (v1 : Int) (v2 : Bool) (v3 : ByteArray) (v4 : Int) (v5 : Int) (v6 : Bool) (v7 : Int) (v8 : Int) (v9 : Sl) (v10 : Int) (v11 : Int) (H : Hp) : Option ((Int × AV) × Hp) :=
  if (IntKind.wrap .u8 (v1)) ≤ v8 then
    (none)
  else
    (if v4 ≤ v7 then
      (none)
    else
      (if (IntKind.wrap .u64 ((IntKind.wrap .u64 (v7 * (IntKind.wrap .u64 (v1)))) + (IntKind.wrap .u64 (v8)))) < (IntKind.wrap .u64 (v7 * (IntKind.wrap .u64 (v1)))) then
        (r245_j9 kt0 v1 v2 v3 v4 v5 v6 (IntKind.wrap .u64 ((IntKind.wrap .u64 (v7 * (IntKind.wrap .u64 (v1)))) + (IntKind.wrap .u64 (v8)))) v9 v10 v11 true H)
      else
        (r245_j9 kt0 v1 v2 v3 v4 v5 v6 (IntKind.wrap .u64 ((IntKind.wrap .u64 (v7 * (IntKind.wrap .u64 (v1)))) + (IntKind.wrap .u64 (v8)))) v9 v10 v11 (decide (v5 < (IntKind.wrap .u64 ((IntKind.wrap .u64 (v7 * (IntKind.wrap .u64 (v1)))) + (IntKind.wrap .u64 (v8)))))) H)))
noncomputable def r245_j11 (kt0 : Int → Bool → ByteArray → Int → Int → Bool → Int → Sl → Int → Int → Hp → Option ((Int × AV) × Hp)) (v1 : Int) (v2 : Bool) (v3 : ByteArray) (v4 : Int) (v5 : Int) (v6 : Bool) (v7 : Int) (v8 : Int) (v9 : Sl) (v10 : Int) (v11 : Int) (v12 : Bool) (H : Hp) : Option ((Int × AV) × Hp) :=
  if v12 = true then
    ((r258 v8 H).bind fun p2 =>
    r245_j10 kt0 v1 v2 v3 v4 v5 v6 v7 (IntKind.wrap .u8 ((IntKind.wrap .u8 (p2.1 - 97)) + 10)) v9 v10 v11 p2.2)
  else
    (none)
noncomputable def r245_j12 (kt0 : Int → Bool → ByteArray → Int → Int → Bool → Int → Sl → Int → Int → Hp → Option ((Int × AV) × Hp)) (v1 : Int) (v2 : Bool) (v3 : ByteArray) (v4 : Int) (v5 : Int) (v6 : Bool) (v7 : Int) (v8 : Int) (v9 : Sl) (v10 : Int) (v11 : Int) (v12 : Bool) (H : Hp) : Option ((Int × AV) × Hp) :=
  if v12 = true then
    (r245_j10 kt0 v1 v2 v3 v4 v5 v6 v7 (IntKind.wrap .u8 (v8 - 48)) v9 v10 v11 H)
  else
    ((r258 v8 H).bind fun p2 =>
    if 97 ≤ p2.1 then
      ((r258 v8 p2.2).bind fun p4 =>
      r245_j11 kt0 v1 v2 v3 v4 v5 v6 v7 v8 v9 v10 v11 (decide (p4.1 ≤ 122)) p4.2)
    else
      (r245_j11 kt0 v1 v2 v3 v4 v5 v6 v7 v8 v9 v10 v11 false p2.2))
noncomputable def r245_j13 (kt0 : Int → Bool → ByteArray → Int → Int → Bool → Int → Sl → Int → Int → Hp → Option ((Int × AV) × Hp)) (v1 : Int) (v2 : Bool) (v3 : ByteArray) (v4 : Int) (v5 : Int) (v6 : Bool) (v7 : Int) (v8 : Int) (v9 : Sl) (v10 : Int) (v11 : Int) (v12 : Bool) (H : Hp) : Option ((Int × AV) × Hp) :=
  if v12 = true then
    (kt0 v1 v2 v3 v4 v5 true v7 v9 v10 (w64 (v11 + 1)) H)
  else
    (if 48 ≤ v8 then
      (r245_j12 kt0 v1 v2 v3 v4 v5 v6 v7 v8 v9 v10 v11 (decide (v8 ≤ 57)) H)
    else
      (r245_j12 kt0 v1 v2 v3 v4 v5 v6 v7 v8 v9 v10 v11 false H))
noncomputable def r245_j14 (v1 : Int) (v2 : Bool) (H : Hp) : Option ((Int × AV) × Hp) :=
  if v2 = true then
    (none)
  else
    (some ((v1, .niliface), H))
noncomputable def r245_l0 : Nat → Int → Bool → ByteArray → Int → Int → Bool → Int → Sl → Int → Int → Hp → Option ((Int × AV) × Hp)
  | 0, _, _, _, _, _, _, _, _, _, _, _ => none
  | k_ + 1, v1, v2, v3, v4, v5, v6, v7, v8, v9, v10, H => if v10 < v9 then
    (ck ((0 : Int) ≤ v10 ∧ v10 < (v8.len : Int)) (
    (H.ldI .u8 v8.b (v8.o + (v10 : Int).toNat * 1)).bind fun x3 =>
    if x3 = 95 then
      (r245_j13 (fun v1_ v2_ v3_ v4_ v5_ v6_ v7_ v8_ v9_ v10_ H_ => r245_l0 k_ v1_ v2_ v3_ v4_ v5_ v6_ v7_ v8_ v9_ v10_ H_) v1 v2 v3 v4 v5 v6 v7 x3 v8 v9 v10 v2 H)
    else
      (r245_j13 (fun v1_ v2_ v3_ v4_ v5_ v6_ v7_ v8_ v9_ v10_ H_ => r245_l0 k_ v1_ v2_ v3_ v4_ v5_ v6_ v7_ v8_ v9_ v10_ H_) v1 v2 v3 v4 v5 v6 v7 x3 v8 v9 v10 false H)))
  else
    (if v6 = true then
      ((r259 v3 H).bind fun p6 =>
      r245_j14 v7 (!p6.1) p6.2)
    else
      (r245_j14 v7 false H))
noncomputable def r245_j1 (v1 : ByteArray) (v2 : Int) (v3 : Int) (v4 : Bool) (v5 : ByteArray) (v6 : Int) (H : Hp) : Option ((Int × AV) × Hp) :=
  ck (¬ (IntKind.wrap .u64 (v3)) < 0) (
  lt (H.push (.cells (bytesAV v1) false)) fun H2 =>
  r245_l0 FUEL v2 v4 v5 v6 (IntKind.wrap .u64 ((shlOf .u64 1 (IntKind.wrap .u64 (v3))) - 1)) false 0 ⟨false, H.n, 0, v1.size, v1.size, 1⟩ ((⟨false, H.n, 0, v1.size, v1.size, 1⟩ : Sl).len : Int) 0 H2)
noncomputable def r245_j8 (v1 : ByteArray) (v2 : Int) (v3 : Int) (v4 : Bool) (v5 : ByteArray) (H : Hp) : Option ((Int × AV) × Hp) :=
  if v2 = 10 then
    (r245_j1 v1 v2 v3 v4 v5 1844674407370955162 H)
  else
    (if v2 = 16 then
      (r245_j1 v1 v2 v3 v4 v5 1152921504606846976 H)
    else
      (ck ((IntKind.wrap .u64 (v2)) ≠ 0) (
      r245_j1 v1 v2 v3 v4 v5 (IntKind.wrap .u64 ((IntKind.wrap .u64 (Int.tdiv 18446744073709551615 (IntKind.wrap .u64 (v2)))) + 1)) H)))
noncomputable def r245_j2 (v1 : ByteArray) (v2 : Int) (v3 : Int) (v4 : Bool) (v5 : ByteArray) (v6 : Bool) (H : Hp) : Option ((Int × AV) × Hp) :=
  if v6 = true then
    (none)
  else
    (r245_j8 v1 v2 v3 v4 v5 H)
noncomputable def r245_j3 (v1 : ByteArray) (v2 : Int) (v3 : Int) (v4 : Bool) (v5 : ByteArray) (H : Hp) : Option ((Int × AV) × Hp) :=
  if v3 = 0 then
    (r245_j8 v1 v2 64 v4 v5 H)
  else
    (if v3 < 0 then
      (r245_j2 v1 v2 v3 v4 v5 true H)
    else
      (r245_j2 v1 v2 v3 v4 v5 (decide (64 < v3)) H))
noncomputable def r245_j7 (v1 : ByteArray) (v2 : Int) (v3 : Bool) (v4 : ByteArray) (v5 : Bool) (H : Hp) : Option ((Int × AV) × Hp) :=
  if v5 = true then
    (ck ((0 : Int) ≤ 2 ∧ 2 ≤ (v1.size : Int) ∧ (v1.size : Int) ≤ (v1.size : Int)) (
    r245_j3 (v1.extract (2 : Int).toNat ((v1.size : Int) : Int).toNat) 16 v2 v3 v4 H))
  else
    (ck ((0 : Int) ≤ 1 ∧ 1 ≤ (v1.size : Int) ∧ (v1.size : Int) ≤ (v1.size : Int)) (
    r245_j3 (v1.extract (1 : Int).toNat ((v1.size : Int) : Int).toNat) 8 v2 v3 v4 H))
noncomputable def r245_j6 (v1 : ByteArray) (v2 : Int) (v3 : Bool) (v4 : ByteArray) (v5 : Bool) (H : Hp) : Option ((Int × AV) × Hp) :=
  if v5 = true then
    (ck ((0 : Int) ≤ 2 ∧ 2 ≤ (v1.size : Int) ∧ (v1.size : Int) ≤ (v1.size : Int)) (
    r245_j3 (v1.extract (2 : Int).toNat ((v1.size : Int) : Int).toNat) 8 v2 v3 v4 H))
  else
    (if 3 ≤ (v1.size : Int) then
      (ck ((0 : Int) ≤ 1 ∧ 1 < (v1.size : Int)) (
      (r258 (bt v1 1) H).bind fun p5 =>
      r245_j7 v1 v2 v3 v4 (decide (p5.1 = 120)) p5.2))
    else
      (r245_j7 v1 v2 v3 v4 false H))
noncomputable def r245_j4 (v1 : ByteArray) (v2 : Int) (v3 : Bool) (v4 : ByteArray) (v5 : Bool) (H : Hp) : Option ((Int × AV) × Hp) :=
  if v5 = true then
    (ck ((0 : Int) ≤ 2 ∧ 2 ≤ (v1.size : Int) ∧ (v1.size : Int) ≤ (v1.size : Int)) (
    r245_j3 (v1.extract (2 : Int).toNat ((v1.size : Int) : Int).toNat) 2 v2 v3 v4 H))
  else
    (if 3 ≤ (v1.size : Int) then
      (ck ((0 : Int) ≤ 1 ∧ 1 < (v1.size : Int)) (
      (r258 (bt v1 1) H).bind fun p5 =>
      r245_j6 v1 v2 v3 v4 (decide (p5.1 = 111)) p5.2))
    else
      (r245_j6 v1 v2 v3 v4 false H))
noncomputable def r245_j5 (v1 : ByteArray) (v2 : Int) (v3 : Int) (v4 : Bool) (v5 : ByteArray) (v6 : Bool) (H : Hp) : Option ((Int × AV) × Hp) :=
  if v6 = true then
    (r245_j3 v1 v2 v3 v4 v5 H)
  else
    (if v2 = 0 then
      (ck ((0 : Int) ≤ 0 ∧ 0 < (v1.size : Int)) (
      if (bt v1 0) = 48 then
        (if 3 ≤ (v1.size : Int) then
          (ck ((0 : Int) ≤ 1 ∧ 1 < (v1.size : Int)) (
          (r258 (bt v1 1) H).bind fun p7 =>
          r245_j4 v1 v3 v4 v5 (decide (p7.1 = 98)) p7.2))
        else
          (r245_j4 v1 v3 v4 v5 false H))
      else
        (r245_j3 v1 10 v3 v4 v5 H)))
    else
      (none))
noncomputable def r245 (a0 : ByteArray) (a1 : Int) (a2 : Int) (H : Hp) : Option ((Int × AV) × Hp) :=
  if (strEq a0 (ByteArray.mk #[])) = true then
    (none)
  else
    (if 2 ≤ a1 then
      (r245_j5 a0 a1 a2 (decide (a1 = 0)) a0 (decide (a1 ≤ 36)) H)
    else
      (r245_j5 a0 a1 a2 (decide (a1 = 0)) a0 false H))
/- 247 errors.New -/
def ret247 : AV → AV := fun r => r
noncomputable def r247 (a0 : ByteArray) (H : Hp) : Option (AV × Hp) :=
  none
end Go.Lt.P10
