/- PRINTED BY A PROGRAM OF OURS: what each function that 'ChestFull' reaches computes on the abstract heap, and that the translated code does just that. Nothing is asked of the input. -/
import Derived.Test.YtopildlfbhfghaaGreatDoorG9R1
set_option linter.unusedVariables false
set_option linter.unusedSimpArgs false
set_option maxRecDepth 100000
set_option maxHeartbeats 4000000
namespace Go.Lt.P10
open Go Go.Lt Go.Proofs
/- 153 (*congou/chest.state).stocks -/
def ret153 : Sl → AV := fun r => .sl r
noncomputable def r153_l0 : Nat → Sl → Sl → Int → Int → Hp → Option (Sl × Hp)
  | 0, _, _, _, _, _ => none
  | k_ + 1, v1, v2, v3, v4, H => if v4 < v3 then (ck ((0 : Int) ≤ v4 ∧ v4 < (v2.len : Int)) ((H.ldStr v2.b (v2.o + (v4 : Int).toNat * 2)).bind fun x3 => (H.ldI .i64 v2.b ((v2.o + (v4 : Int).toNat * 2) + 1)).bind fun x4 => ((H.push (.cells [.str (ByteArray.mk #[]), .int .i64 0] false)).sts H.n 0 [.str x3, .int .i64 x4]).bind fun H5 => (H5.ldI .i64 H.n (0 + 1)).bind fun x6 => (H5.apN 1 v1 [.int .i64 x6] 1).bind fun x7 => r153_l0 k_ x7.1 v2 v3 (w64 (v4 + 1)) x7.2))
  else (some (v1, H))
noncomputable def r153 (a0b a0o : Nat) (H : Hp) : Option (Sl × Hp) := (H.ldSl a0b (a0o + 0)).bind fun x1 => r153_l0 FUEL ⟨true, 0, 0, 0, 0, 0⟩ x1 (x1.len : Int) 0 H
/- 98 (*congou/chest.state).gap -/
def ret98 : Sl × Int → AV := fun r => .tup [.sl r.1, .int .i64 r.2]
noncomputable def r98 (app : App) (a0b a0o : Nat) (a1_0 a1_1 : Sl) (H : Hp) : Option ((Sl × Int) × Hp) := lt (H.push (.cells [.sl a1_0, .sl a1_1] false)) fun H1 => (H1.ldSl a0b (a0o + 0)).bind fun x2 => if (x2.len : Int) = 0 then (some ((⟨true, 0, 0, 0, 0, 0⟩, 4), H1))
  else ((r153 a0b a0o H1).bind fun p4 => (r17 p4.1 p4.2).bind fun p5 => (r134 app ⟨false, p5.2.n, 0, 1, 1, 0⟩ (p5.2.push (.cells [.int .i64 p5.1.1] false))).bind fun p6 => some ((p6.1, p5.1.2), p6.2))
/- 197 slices.IndexFunc[[]congou/chest.leaf,congou/chest.leaf] -/
def ret197 : Int → AV := fun r => .int .i64 r
noncomputable def r197_l0 (app : App) : Nat → Sl → AV → Int → Int → Hp → Option (Int × Hp)
  | 0, _, _, _, _, _ => none
  | k_ + 1, v1, v2, v3, v4, H => if v4 < v3 then (ck ((0 : Int) ≤ v4 ∧ v4 < (v1.len : Int)) ((H.ldStr v1.b (v1.o + (v4 : Int).toNat * 2)).bind fun x3 => (H.ldI .i64 v1.b ((v1.o + (v4 : Int).toNat * 2) + 1)).bind fun x4 => (callv app v2 [.agg [.str x3, .int .i64 x4]] H).bind fun p5 => (p5.1.asB).bind fun x6 => if x6 = true then (some (v4, p5.2))
    else (r197_l0 app k_ v1 v2 v3 (w64 (v4 + 1)) p5.2)))
  else (some ((-1), H))
noncomputable def r197 (app : App) (a0 : Sl) (a1 : AV) (H : Hp) : Option (Int × Hp) := r197_l0 app FUEL a0 a1 (a0.len : Int) 0 H
/- 154 (*congou/chest.state).find -/
def ret154 : Int → AV := fun r => .int .i64 r
noncomputable def r154 (app : App) (a0b a0o : Nat) (a1 : ByteArray) (H : Hp) : Option (Int × Hp) := lt (H.push (.cells [.str a1] false)) fun H1 => (H1.ldSl a0b (a0o + 0)).bind fun x2 => (r197 app x2 (.fn 198 [] [.ptr H.n 0]) H1).bind fun p3 => some (p3.1, p3.2)
/- 112 (*congou/chest.state).leaf -/
def ret112 : Int → AV := fun r => .int .i64 r
noncomputable def r112 (app : App) (a0b a0o : Nat) (a1_0 a1_1 : Sl) (H : Hp) : Option (Int × Hp) := lt (H.push (.cells [.sl a1_0, .sl a1_1] false)) fun H1 => (H1.ldSl H.n (0 + 0)).bind fun x2 => ck ((0 : Int) ≤ 0 ∧ 0 < (x2.len : Int)) ((H1.ldStr x2.b (x2.o + (0 : Int).toNat * 1)).bind fun x4 => (r154 app a0b a0o x4 H1).bind fun p5 => if 0 ≤ p5.1 then (some (5, p5.2))
  else ((p5.2.ldSl H.n (0 + 1)).bind fun x7 => ck ((0 : Int) ≤ 0 ∧ 0 < (x7.len : Int)) ((p5.2.ldI .i64 x7.b (x7.o + (0 : Int).toNat * 1)).bind fun x9 => if 20 < x9 then (some (2, p5.2))
    else ((p5.2.ldSl a0b (a0o + 0)).bind fun x11 => if (x11.len : Int) = 6 then (some (7, p5.2))
      else ((p5.2.ldSl a0b (a0o + 0)).bind fun x13 => (p5.2.ldSl H.n (0 + 0)).bind fun x14 => ck ((0 : Int) ≤ 0 ∧ 0 < (x14.len : Int)) ((p5.2.ldStr x14.b (x14.o + (0 : Int).toNat * 1)).bind fun x16 => (p5.2.ldSl H.n (0 + 1)).bind fun x17 => ck ((0 : Int) ≤ 0 ∧ 0 < (x17.len : Int)) ((p5.2.ldI .i64 x17.b (x17.o + (0 : Int).toNat * 1)).bind fun x19 => (p5.2.apN 2 x13 [.str x16, .int .i64 x19] 1).bind fun x20 => (x20.2.st a0b (a0o + 0) (.sl x20.1)).bind fun H21 => some (0, H21))))))))
/- 113 (*congou/chest.state).give -/
def ret113 : Int → AV := fun r => .int .i64 r
noncomputable def r113_l1 (app : App) : Nat → Nat → Nat → Sl → Int → Int → Hp → Option (Int × Hp)
  | 0, _, _, _, _, _, _ => none
  | k_ + 1, v1, v2, v3, v4, v5, H => if v5 < v4 then (ck ((0 : Int) ≤ v5 ∧ v5 < (v3.len : Int)) ((H.ldI .i64 v3.b (v3.o + (v5 : Int).toNat * 1)).bind fun x3 => (H.ldSl v1 (v2 + 0)).bind fun x4 => ck ((0 : Int) ≤ v5 ∧ v5 < (x4.len : Int)) ((H.st x4.b ((x4.o + (v5 : Int).toNat * 2) + 1) (.int .i64 x3)).bind fun H6 => r113_l1 app k_ v1 v2 v3 v4 (w64 (v5 + 1)) H6)))
  else (some (0, H))
noncomputable def r113_j2 (app : App) (v1 v2 : Nat) (v3 : Sl) (v4 : Bool) (H : Hp) : Option (Int × Hp) := if v4 = true then (some (5, H))
  else (r113_l1 app FUEL v1 v2 v3 (v3.len : Int) 0 H)
noncomputable def r113_j0 (app : App) (v1 v2 : Nat) (v3 v4 v5 : Int) (v6 : Bool) (H : Hp) : Option (Int × Hp) := if v6 = true then (some (4, H))
  else ((r153 v1 v2 H).bind fun p2 => (r18 p2.1 p2.2).bind fun p3 => ck ((0 : Int) ≤ v3 ∧ v3 < (p3.1.len : Int)) ((p3.2.ldI .i64 p3.1.b (p3.1.o + (v3 : Int).toNat * 1)).bind fun x5 => ck ((0 : Int) ≤ v3 ∧ v3 < (p3.1.len : Int)) ((p3.2.st p3.1.b (p3.1.o + (v3 : Int).toNat * 1) (.int .i64 (w64 (x5 - v5)))).bind fun H7 => ck ((0 : Int) ≤ v4 ∧ v4 < (p3.1.len : Int)) ((H7.ldI .i64 p3.1.b (p3.1.o + (v4 : Int).toNat * 1)).bind fun x9 => ck ((0 : Int) ≤ v4 ∧ v4 < (p3.1.len : Int)) ((H7.st p3.1.b (p3.1.o + (v4 : Int).toNat * 1) (.int .i64 (w64 (x9 + v5)))).bind fun H11 => (r24 p2.1 p3.1 ⟨false, H11.n, 0, 1, 1, 0⟩ (H11.push (.cells [.int .i64 v3, .int .i64 v4, .int .i64 v5] false))).bind fun p12 => if p12.1.1 = true then (r113_j2 app v1 v2 p3.1 (decide (p12.1.2 ≠ 0)) p12.2)
    else (r113_j2 app v1 v2 p3.1 true p12.2))))))
noncomputable def r113 (app : App) (a0b a0o : Nat) (a1_0 a1_1 : Sl) (H : Hp) : Option (Int × Hp) := lt (H.push (.cells [.sl a1_0, .sl a1_1] false)) fun H1 => (H1.ldSl H.n (0 + 0)).bind fun x2 => ck ((0 : Int) ≤ 0 ∧ 0 < (x2.len : Int)) ((H1.ldStr x2.b (x2.o + (0 : Int).toNat * 1)).bind fun x4 => (r154 app a0b a0o x4 H1).bind fun p5 => (p5.2.ldSl H.n (0 + 0)).bind fun x6 => ck ((0 : Int) ≤ 1 ∧ 1 < (x6.len : Int)) ((p5.2.ldStr x6.b (x6.o + (1 : Int).toNat * 1)).bind fun x8 => (r154 app a0b a0o x8 p5.2).bind fun p9 => (p9.2.ldSl H.n (0 + 1)).bind fun x10 => ck ((0 : Int) ≤ 0 ∧ 0 < (x10.len : Int)) ((p9.2.ldI .i64 x10.b (x10.o + (0 : Int).toNat * 1)).bind fun x12 => ck (H1.ldSl H.n (0 + 0) = some x6) (ck (H1.ldStr x6.b (x6.o + (1 : Int).toNat * 1) = some x8) (ck (H1.ldSl H.n (0 + 1) = some x10) (ck (H1.ldI .i64 x10.b (x10.o + (0 : Int).toNat * 1) = some x12) (ck (p5.2.ldSl H.n (0 + 1) = some x10) (ck (p5.2.ldI .i64 x10.b (x10.o + (0 : Int).toNat * 1) = some x12) (ck (p9.2.ldSl H.n (0 + 0) = some x6) (ck (p9.2.ldStr x6.b (x6.o + (1 : Int).toNat * 1) = some x8) (if p5.1 < 0 then (r113_j0 app a0b a0o p5.1 p9.1 x12 true p9.2)
  else (r113_j0 app a0b a0o p5.1 p9.1 x12 (decide (p9.1 < 0)) p9.2))))))))))))
/- 114 (*congou/chest.state).order -/
def ret114 : Int → AV := fun r => .int .i64 r
noncomputable def r114 (app : App) (a0b a0o : Nat) (a1_0 a1_1 : Sl) (H : Hp) : Option (Int × Hp) := lt (H.push (.cells [.sl a1_0, .sl a1_1] false)) fun H1 => (H1.ldSl H.n (0 + 0)).bind fun x2 => ck ((0 : Int) ≤ 0 ∧ 0 < (x2.len : Int)) ((H1.ldStr x2.b (x2.o + (0 : Int).toNat * 1)).bind fun x4 => (r154 app a0b a0o x4 H1).bind fun p5 => if p5.1 < 0 then (some (4, p5.2))
  else ((p5.2.ldSl a0b (a0o + 0)).bind fun x7 => ck ((0 : Int) ≤ p5.1 ∧ p5.1 < (x7.len : Int)) ((p5.2.ldI .i64 x7.b ((x7.o + (p5.1 : Int).toNat * 2) + 1)).bind fun x9 => if x9 = 0 then (some (5, p5.2))
    else ((p5.2.ldSl a0b (a0o + 1)).bind fun x11 => if (x11.len : Int) = 40 then (some (7, p5.2))
      else ((p5.2.ldSl a0b (a0o + 0)).bind fun x13 => ck ((0 : Int) ≤ p5.1 ∧ p5.1 < (x13.len : Int)) ((p5.2.ldI .i64 x13.b ((x13.o + (p5.1 : Int).toNat * 2) + 1)).bind fun x15 => ck ((0 : Int) ≤ p5.1 ∧ p5.1 < (x13.len : Int)) ((p5.2.st x13.b ((x13.o + (p5.1 : Int).toNat * 2) + 1) (.int .i64 (w64 (x15 - 1)))).bind fun H17 => (H17.ldSl a0b (a0o + 1)).bind fun x18 => (H17.apN 1 x18 [.int .i64 p5.1] 1).bind fun x19 => (x19.2.st a0b (a0o + 1) (.sl x19.1)).bind fun H20 => some (0, H20))))))))
/- 115 (*congou/chest.state).taste -/
def ret115 : Int → AV := fun r => .int .i64 r
noncomputable def r115_j1 (v1 v2 : Nat) (v3 v4 v5 : Int) (v6 : Bool) (H : Hp) : Option (Int × Hp) := if v6 = true then (some (2, H))
  else (if v5 = 16 then (some (7, H))
    else (ck ((0 : Int) ≤ v3 ∧ v3 < ((2 : Nat) : Int)) (ck ((0 : Int) ≤ v4 ∧ v4 < ((2 : Nat) : Int)) ((H.ldI .i64 v1 (((v2 + 2) + (v3 : Int).toNat * 2) + (v4 : Int).toNat * 1)).bind fun x5 => ck ((0 : Int) ≤ v3 ∧ v3 < ((2 : Nat) : Int)) (ck ((0 : Int) ≤ v4 ∧ v4 < ((2 : Nat) : Int)) ((H.st v1 (((v2 + 2) + (v3 : Int).toNat * 2) + (v4 : Int).toNat * 1) (.int .i64 (w64 (x5 + 1)))).bind fun H8 => some (0, H8)))))))
noncomputable def r115_l0 : Nat → Nat → Nat → Int → Int → Int → Int → Int → Int → Int → Int → Hp → Option (Int × Hp)
  | 0, _, _, _, _, _, _, _, _, _, _, _ => none
  | k_ + 1, v1, v2, v3, v4, v5, v6, v7, v8, v9, v10, H => if v10 < 2 then (ck ((0 : Int) ≤ v10 ∧ v10 < ((2 : Nat) : Int)) ((apart true 2 [.int .i64 v6, .int .i64 v7, .int .i64 v8, .int .i64 v9] ((v10 : Int).toNat * 2)).bind fun x3 => (x3.asA).bind fun x4 => ck (x4.length = 2) ((x4[0]?).bind fun x6 => (x6.asI .i64).bind fun x7 => (x4[1]?).bind fun x8 => (x8.asI .i64).bind fun x9 => ((H.push (.cells [.int .i64 0, .int .i64 0] false)).sts H.n 0 [.int .i64 x7, .int .i64 x9]).bind fun H10 => (H10.ldI .i64 H.n (0 + (0 : Int).toNat * 1)).bind fun x11 => (H10.ldI .i64 H.n (0 + (1 : Int).toNat * 1)).bind fun x12 => r115_l0 k_ v1 v2 v3 v4 (w64 (v5 + (w64 (x11 + x12)))) v6 v7 v8 v9 (w64 (v10 + 1)) H10)))
  else (if 1 < v3 then (r115_j1 v1 v2 v3 v4 v5 true H)
    else (r115_j1 v1 v2 v3 v4 v5 (decide (1 < v4)) H))
noncomputable def r115 (a0b a0o : Nat) (a1_0 a1_1 : Sl) (H : Hp) : Option (Int × Hp) := lt (H.push (.cells [.sl a1_0, .sl a1_1] false)) fun H1 => (H1.ldSl H.n (0 + 1)).bind fun x2 => ck ((0 : Int) ≤ 0 ∧ 0 < (x2.len : Int)) ((H1.ldI .i64 x2.b (x2.o + (0 : Int).toNat * 1)).bind fun x4 => (H1.ldSl H.n (0 + 1)).bind fun x5 => ck ((0 : Int) ≤ 1 ∧ 1 < (x5.len : Int)) ((H1.ldI .i64 x5.b (x5.o + (1 : Int).toNat * 1)).bind fun x7 => (H1.ldI .i64 a0b (a0o + 2)).bind fun x8 => (H1.ldI .i64 a0b ((a0o + 2) + 1)).bind fun x9 => (H1.ldI .i64 a0b ((a0o + 2) + 2)).bind fun x10 => (H1.ldI .i64 a0b ((a0o + 2) + 3)).bind fun x11 => r115_l0 FUEL a0b a0o x4 x7 0 x8 x9 x10 x11 0 H1))
/- 230 slices.Index[[][2]int,[2]int] -/
def ret230 : Int → AV := fun r => .int .i64 r
noncomputable def r230_l0 : Nat → Sl → Nat → Int → Int → Hp → Option (Int × Hp)
  | 0, _, _, _, _, _ => none
  | k_ + 1, v1, v2, v3, v4, H => if v4 < v3 then ((H.ldI .i64 v2 0).bind fun x2 => (H.ldI .i64 v2 (0 + 1)).bind fun x3 => ck ((0 : Int) ≤ v4 ∧ v4 < (v1.len : Int)) ((H.ldI .i64 v1.b (v1.o + (v4 : Int).toNat * 2)).bind fun x5 => (H.ldI .i64 v1.b ((v1.o + (v4 : Int).toNat * 2) + 1)).bind fun x6 => if (AV.keqs [.int .i64 x2, .int .i64 x3] [.int .i64 x5, .int .i64 x6]) = true then (some (v4, H))
    else (r230_l0 k_ v1 v2 v3 (w64 (v4 + 1)) H)))
  else (some ((-1), H))
noncomputable def r230 (a0 : Sl) (a1_0 a1_1 : Int) (H : Hp) : Option (Int × Hp) := lt (H.push (.cells [.int .i64 a1_0, .int .i64 a1_1] false)) fun H1 => r230_l0 FUEL a0 H.n (a0.len : Int) 0 H1
/- 170 slices.Contains[[][2]int,[2]int] -/
def ret170 : Bool → AV := fun r => .bool r
noncomputable def r170 (a0 : Sl) (a1_0 a1_1 : Int) (H : Hp) : Option (Bool × Hp) := lt (H.push (.cells [.int .i64 a1_0, .int .i64 a1_1] false)) fun H1 => (H1.ldI .i64 H.n 0).bind fun x2 => (H1.ldI .i64 H.n (0 + 1)).bind fun x3 => (r230 a0 x2 x3 H1).bind fun p4 => some ((decide (0 ≤ p4.1)), p4.2)
/- 116 (*congou/chest.state).offer -/
def ret116 : Int → AV := fun r => .int .i64 r
noncomputable def r116 (a0b a0o : Nat) (a1_0 a1_1 : Sl) (H : Hp) : Option (Int × Hp) := lt (H.push (.cells [.sl a1_0, .sl a1_1] false)) fun H1 => (H1.ldSl H.n (0 + 1)).bind fun x2 => ck ((0 : Int) ≤ 0 ∧ 0 < (x2.len : Int)) ((H1.ldI .i64 x2.b (x2.o + (0 : Int).toNat * 1)).bind fun x4 => (H1.ldSl H.n (0 + 1)).bind fun x5 => ck ((0 : Int) ≤ 1 ∧ 1 < (x5.len : Int)) ((H1.ldI .i64 x5.b (x5.o + (1 : Int).toNat * 1)).bind fun x7 => ((H1.push (.cells [.int .i64 0, .int .i64 0] false)).sts H1.n 0 [.int .i64 x4, .int .i64 x7]).bind fun H8 => (H8.ldSl a0b (a0o + 6)).bind fun x9 => (H8.ldI .i64 H1.n 0).bind fun x10 => (H8.ldI .i64 H1.n (0 + 1)).bind fun x11 => (r170 x9 x10 x11 H8).bind fun p12 => if p12.1 = true then (some (5, p12.2))
  else ((p12.2.ldI .i64 H1.n (0 + (0 : Int).toNat * 1)).bind fun x14 => (p12.2.ldI .i64 H1.n (0 + (1 : Int).toNat * 1)).bind fun x15 => if 30 < (if x14 < x15 then x15 else x14) then (some (2, p12.2))
    else ((p12.2.ldSl a0b (a0o + 6)).bind fun x17 => if (x17.len : Int) = 8 then (some (7, p12.2))
      else ((p12.2.ldSl a0b (a0o + 6)).bind fun x19 => (p12.2.ldI .i64 H1.n 0).bind fun x20 => (p12.2.ldI .i64 H1.n (0 + 1)).bind fun x21 => (p12.2.apN 2 x19 [.int .i64 x20, .int .i64 x21] 1).bind fun x22 => (x22.2.st a0b (a0o + 6) (.sl x22.1)).bind fun H23 => some (0, H23))))))
/- 118 (*congou/chest.Chest).child$1 -/
def ret118 : Bool → AV := fun r => .bool r
noncomputable def r118 (a0_0 : ByteArray) (a0_1 : Int) (a0_2b a0_2o c0 c1 : Nat) (H : Hp) : Option (Bool × Hp) := lt (H.push (.cells [.str a0_0, .int .i64 a0_1, .ptr a0_2b a0_2o] false)) fun H1 => (H1.ldStr H.n (0 + 0)).bind fun x2 => (H1.ldStr c0 0).bind fun x3 => if (strEq x2 x3) = true then ((H1.ldI .i64 H.n (0 + 1)).bind fun x5 => (H1.ldI .i64 c1 0).bind fun x6 => if x5 = x6 then ((H1.ldStr H.n (0 + 0)).bind fun x8 => some ((!(strEq x8 (ByteArray.mk #[]))), H1))
    else (some (false, H1)))
  else (some (false, H1))
/- 130 (*congou/chest.Chest).has$1 -/
def ret130 : Bool → AV := fun r => .bool r
noncomputable def r130 (a0 : Int) (c0 : Nat) (H : Hp) : Option (Bool × Hp) := if a0 < 0 then (some (true, H))
  else ((H.ldP c0 0).bind fun x2 => (H.ldSl x2.1 (x2.2 + 0)).bind fun x3 => some ((decide ((x3.len : Int) ≤ a0)), H))
/- 132 (*congou/chest.state).text$1 -/
def ret132 : Unit → AV := fun _ => .tup []
noncomputable def r132 (app : App) (a0 : ByteArray) (a1 : Sl) (c0 : Nat) (H : Hp) : Option (Unit × Hp) := ((H.push (.cells [.str a0] false)).lds a1.b a1.o (a1.len * 1)).bind fun x1 => ck (x1.all AV.one = true) (((H.push (.cells [.str a0] false)).app 1 ⟨false, H.n, 0, 1, 1, 0⟩ x1 a1.len).bind fun x3 => (app 109 [.sl x3.1, .str (ByteArray.mk #[32])] x3.2).bind fun p4 => (p4.1.asStr).bind fun x5 => ck (x5.size + (ByteArray.mk #[10]).size ≤ 9223372036854775807) ((app 131 [.ptr c0 0, .str (x5 ++ (ByteArray.mk #[10]))] p4.2).bind fun p7 => (p7.1.asT).bind fun x8 => ck (x8.length = 2) ((x8[0]?).bind fun x10 => (x10.asI .i64).bind fun x11 => (x8[1]?).bind fun x12 => some ((), p7.2))))
/- 198 (*congou/chest.state).find$1 -/
def ret198 : Bool → AV := fun r => .bool r
noncomputable def r198 (a0_0 : ByteArray) (a0_1 : Int) (c0 : Nat) (H : Hp) : Option (Bool × Hp) := lt (H.push (.cells [.str a0_0, .int .i64 a0_1] false)) fun H1 => (H1.ldStr H.n (0 + 0)).bind fun x2 => (H1.ldStr c0 0).bind fun x3 => some ((strEq x2 x3), H1)
end Go.Lt.P10
