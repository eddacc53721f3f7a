/- PRINTED BY A PROGRAM OF OURS: what each function that 'ChestGives' reaches computes on the abstract heap, and that the translated code does just that. Nothing is asked of the input. -/
import Derived.Test.YtopildlfbhfghaaGreatDoorG6R0
set_option linter.unusedVariables false
set_option linter.unusedSimpArgs false
set_option maxRecDepth 100000
set_option maxHeartbeats 4000000
namespace Go.Lt.P10
open Go Go.Lt Go.Proofs
/- 55 (congou/counts.table).weight -/
def ret55 : Int → AV := fun r => .int .i64 r
noncomputable def r55_l0 : Nat → Int → Sl → Int → Int → Hp → Option (Int × Hp)
 | 0, _, _, _, _, _ => none
 | k_ + 1, v1, v2, v3, v4, H => if v4 < v3 then (ck ((0 : Int) ≤ v4 ∧ v4 < (v2.len : Int)) ((H.ldSl v2.b (v2.o + (v4 : Int).toNat * 1)).bind fun x3 => (r59 x3 H).bind fun p4 => r55_l0 k_ (w64 (v1 * p4.1)) v2 v3 (w64 (v4 + 1)) p4.2))
 else (some (v1, H))
noncomputable def r55 (a0 : Sl) (H : Hp) : Option (Int × Hp) := r55_l0 FUEL 1 a0 (a0.len : Int) 0 H
/- 92 (congou/counts.table).sums -/
def ret92 : Sl × Sl → AV := fun r => .tup [.sl r.1, .sl r.2]
noncomputable def r92_l1 (kt0 : Sl → Sl → Sl → Int → Int → Hp → Option ((Sl × Sl) × Hp)) : Nat → Sl → Sl → Int → Sl → Int → Int → Sl → Int → Int → Hp → Option ((Sl × Sl) × Hp)
 | 0, _, _, _, _, _, _, _, _, _, _ => none
 | k_ + 1, v1, v2, v3, v4, v5, v6, v7, v8, v9, H => if v9 < v8 then (ck ((0 : Int) ≤ v9 ∧ v9 < (v7.len : Int)) ((H.ldI .i64 v7.b (v7.o + (v9 : Int).toNat * 1)).bind fun x3 => ck ((0 : Int) ≤ v9 ∧ v9 < (v2.len : Int)) ((H.ldI .i64 v2.b (v2.o + (v9 : Int).toNat * 1)).bind fun x5 => ck ((0 : Int) ≤ v9 ∧ v9 < (v2.len : Int)) ((H.st v2.b (v2.o + (v9 : Int).toNat * 1) (.int .i64 (w64 (x5 + x3)))).bind fun H7 => r92_l1 kt0 k_ v1 v2 (w64 (v3 + x3)) v4 v5 v6 v7 v8 (w64 (v9 + 1)) H7))))
 else ((H.apN 1 v1 [.int .i64 v3] 1).bind fun x8 => kt0 x8.1 v2 v4 v5 (w64 (v6 + 1)) x8.2)
noncomputable def r92_l0 : Nat → Sl → Sl → Sl → Int → Int → Hp → Option ((Sl × Sl) × Hp)
 | 0, _, _, _, _, _, _ => none
 | k_ + 1, v1, v2, v3, v4, v5, H => if v5 < v4 then (ck ((0 : Int) ≤ v5 ∧ v5 < (v3.len : Int)) ((H.ldSl v3.b (v3.o + (v5 : Int).toNat * 1)).bind fun x3 => r92_l1 (r92_l0 k_) FUEL v1 v2 0 v3 v4 v5 x3 (x3.len : Int) 0 H))
 else (some ((v1, v2), H))
noncomputable def r92 (a0 : Sl) (H : Hp) : Option ((Sl × Sl) × Hp) := ck ((0 : Int) ≤ 0 ∧ 0 < (a0.len : Int)) ((H.ldSl a0.b (a0.o + (0 : Int).toNat * 1)).bind fun x2 => ck ((0 : Int) ≤ (x2.len : Int) ∧ (x2.len : Int) ≤ (x2.len : Int) ∧ (x2.len : Int) ≤ 4294967296) (lt (H.push (.cells (zerosA [.int .i64 0] (((x2.len : Int) : Int).toNat * 1)) false)) fun H4 => r92_l0 FUEL ⟨true, 0, 0, 0, 0, 0⟩ ⟨false, H.n, 0, ((x2.len : Int) : Int).toNat, ((x2.len : Int) : Int).toNat, 0⟩ a0 (a0.len : Int) 0 H4))
/- 56 (congou/counts.table).family -/
def ret56 : Sl × Sl → AV := fun r => .agg [.sl r.1, .sl r.2]
noncomputable def r56 (a0 : Sl) (H : Hp) : Option ((Sl × Sl) × Hp) := lt (H.push (.cells [.sl ⟨true, 0, 0, 0, 0, 0⟩, .sl ⟨true, 0, 0, 0, 0, 0⟩] false)) fun H1 => (r92 a0 H1).bind fun p2 => (p2.2.sts H.n 0 [.sl p2.1.1, .sl p2.1.2]).bind fun H3 => (H3.ldSl H.n 0).bind fun x4 => (H3.ldSl H.n (0 + 1)).bind fun x5 => some ((x4, x5), H3)
/- 96 congou/counts.gcd -/
def ret96 : Int → AV := fun r => .int .i64 r
noncomputable def r96_l0 : Nat → Int → Int → Hp → Option (Int × Hp)
 | 0, _, _, _ => none
 | k_ + 1, v1, v2, H => if v2 ≠ 0 then (ck (v2 ≠ 0) (r96_l0 k_ v2 (Int.tmod v1 v2) H))
 else (some ((if v1 < (w64 (0 - v1)) then (w64 (0 - v1)) else v1), H))
noncomputable def r96 (a0 a1 : Int) (H : Hp) : Option (Int × Hp) := r96_l0 FUEL a0 a1 H
/- 58 congou/counts.frac -/
def ret58 : Int × Int → AV := fun r => .agg [.int .i64 r.1, .int .i64 r.2]
noncomputable def r58 (a0 a1 : Int) (H : Hp) : Option ((Int × Int) × Hp) := lt (H.push (.cells [.int .i64 0, .int .i64 0] false)) fun H1 => (r96 a0 a1 H1).bind fun p2 => ck (p2.1 ≠ 0) (ck (p2.1 ≠ 0) ((p2.2.sts H.n 0 [.int .i64 (w64 (Int.tdiv a0 p2.1)), .int .i64 (w64 (Int.tdiv a1 p2.1))]).bind fun H5 => (H5.ldI .i64 H.n 0).bind fun x6 => (H5.ldI .i64 H.n (0 + 1)).bind fun x7 => some ((x6, x7), H5)))
/- 13 congou/counts.Tail -/
def ret13 : Int × Int × Int → AV := fun r => .tup [.agg [.int .i64 r.1, .int .i64 r.2.1], .int .i64 r.2.2]
noncomputable def r13 (app : App) (a0 : Sl) (H : Hp) : Option ((Int × Int × Int) × Hp) := lt (H.push (.cells [.int .i64 0, .int .i64 0] false)) fun H1 => (r54 a0 H1).bind fun p2 => if p2.1 = true then ((r55 a0 p2.2).bind fun p4 => ((p4.2.push (.cells [.int .i64 0] false)).st p4.2.n 0 (.int .i64 p4.1)).bind fun H5 => ((H5.push (.cells [.int .i64 0] false)).st H5.n 0 (.int .i64 0)).bind fun H6 => (r56 a0 H6).bind fun p7 => (callr app (.fn 57 [.agg [.sl p7.1.1, .sl p7.1.2]] []) (p7.2.n + 1) ((p7.2.push .dfr).push (.loop .ready none 0 32 [(4, .ptr p4.2.n 0), (5, .ptr H5.n 0)]))).bind fun p8 => (p8.2.lend (p7.2.n + 1)).bind fun q9 => if jmp q9.1 = some 0 then ((q9.2.ldI .i64 H5.n 0).bind fun x11 => (r56 a0 q9.2).bind fun p12 => (r59 p12.1.2 p12.2).bind fun p13 => (r58 x11 p13.1 p13.2).bind fun p14 => (p14.2.sts H.n 0 [.int .i64 p14.1.1, .int .i64 p14.1.2]).bind fun H15 => ck (p12.2.ldI .i64 H5.n 0 = some x11) (ck (p13.2.ldI .i64 H5.n 0 = some x11) ((H15.ldI .i64 H.n 0).bind fun x18 => (H15.ldI .i64 H.n (0 + 1)).bind fun x19 => ck (dfrB [p7.2.n] H15 = true) (some ((x18, x19, 0), kill [p7.2.n] H15)))))
  else (none))
 else ((p2.2.sts H.n 0 [.int .i64 0, .int .i64 0]).bind fun H21 => (H21.ldI .i64 H.n 0).bind fun x22 => (H21.ldI .i64 H.n (0 + 1)).bind fun x23 => some ((x22, x23, 2), H21))
noncomputable def r13q0 (app : App) (l_ v1 v2 : Nat) (y0 : Sl) (H : Hp) : Option ((Option Code) × Hp) := (H.lbegin l_).bind fun H1 => (r55 y0 H1).bind fun p2 => (p2.2.ldI .i64 v1 0).bind fun x3 => if p2.1 ≤ x3 then ((p2.2.ldI .i64 v2 0).bind fun x5 => (p2.2.st v2 0 (.int .i64 (w64 (x5 + p2.1)))).bind fun H6 => some (none, H6))
 else (some (none, p2.2))
/- 94 slices.Max[[]int,int] -/
def ret94 : Int → AV := fun r => .int .i64 r
noncomputable def r94_l0 : Nat → Sl → Int → Int → Hp → Option (Int × Hp)
 | 0, _, _, _, _ => none
 | k_ + 1, v1, v2, v3, H => if v3 < (v1.len : Int) then (ck ((0 : Int) ≤ v3 ∧ v3 < (v1.len : Int)) ((H.ldI .i64 v1.b (v1.o + (v3 : Int).toNat * 1)).bind fun x3 => r94_l0 k_ v1 (if v2 < x3 then x3 else v2) (w64 (v3 + 1)) H))
 else (some (v2, H))
noncomputable def r94 (a0 : Sl) (H : Hp) : Option (Int × Hp) := if (a0.len : Int) < 1 then (none)
 else (ck ((0 : Int) ≤ 0 ∧ 0 < (a0.len : Int)) ((H.ldI .i64 a0.b (a0.o + (0 : Int).toNat * 1)).bind fun x3 => r94_l0 FUEL a0 x3 1 H))
/- 110 slices.Min[[]int,int] -/
def ret110 : Int → AV := fun r => .int .i64 r
noncomputable def r110_l0 : Nat → Sl → Int → Int → Hp → Option (Int × Hp)
 | 0, _, _, _, _ => none
 | k_ + 1, v1, v2, v3, H => if v3 < (v1.len : Int) then (ck ((0 : Int) ≤ v3 ∧ v3 < (v1.len : Int)) ((H.ldI .i64 v1.b (v1.o + (v3 : Int).toNat * 1)).bind fun x3 => r110_l0 k_ v1 (if x3 < v2 then x3 else v2) (w64 (v3 + 1)) H))
 else (some (v2, H))
noncomputable def r110 (a0 : Sl) (H : Hp) : Option (Int × Hp) := if (a0.len : Int) < 1 then (none)
 else (ck ((0 : Int) ≤ 0 ∧ 0 < (a0.len : Int)) ((H.ldI .i64 a0.b (a0.o + (0 : Int).toNat * 1)).bind fun x3 => r110_l0 FUEL a0 x3 1 H))
/- 63 congou/shares.are -/
def ret63 : Bool → AV := fun r => .bool r
noncomputable def r63_j1 (kt0 : Sl → Sl → Int → Int → Hp → Option (Bool × Hp)) (v1 v2 : Sl) (v3 v4 : Int) (v5 : Bool) (H : Hp) : Option (Bool × Hp) := if v5 = true then (some (false, H))
 else (kt0 v1 v2 v3 (w64 (v4 + 1)) H)
noncomputable def r63_l0 : Nat → Sl → Sl → Int → Int → Hp → Option (Bool × Hp)
 | 0, _, _, _, _, _ => none
 | k_ + 1, v1, v2, v3, v4, H => if v4 < v3 then (ck ((0 : Int) ≤ v4 ∧ v4 < (v2.len : Int)) ((H.ldSl v2.b (v2.o + (v4 : Int).toNat * 1)).bind fun x3 => if (x3.len : Int) < 1 then (r63_j1 (r63_l0 k_) v1 v2 v3 v4 true H)
  else (if 6 < (x3.len : Int) then (r63_j1 (r63_l0 k_) v1 v2 v3 v4 true H)
   else (ck ((0 : Int) ≤ 0 ∧ 0 < (v1.len : Int)) ((H.ldSl v1.b (v1.o + (0 : Int).toNat * 1)).bind fun x7 => if (x3.len : Int) ≠ (x7.len : Int) then (r63_j1 (r63_l0 k_) v1 v2 v3 v4 true H)
    else ((r110 x3 H).bind fun p9 => if p9.1 < 0 then (r63_j1 (r63_l0 k_) v1 v2 v3 v4 true p9.2)
     else ((r94 x3 p9.2).bind fun p11 => r63_j1 (r63_l0 k_) v1 v2 v3 v4 (decide (20 < p11.1)) p11.2)))))))
 else (some (true, H))
noncomputable def r63 (a0 : Sl) (H : Hp) : Option (Bool × Hp) := r63_l0 FUEL a0 a0 (a0.len : Int) 0 H
/- 17 congou/shares.Gap -/
def ret17 : Int × Int → AV := fun r => .tup [.int .i64 r.1, .int .i64 r.2]
noncomputable def r17_l1 (kt0 : Sl → Int → Sl → Int → Int → Hp → Option ((Int × Int) × Hp)) : Nat → Sl → Int → Int → Sl → Int → Int → Sl → Int → Int → Hp → Option ((Int × Int) × Hp)
 | 0, _, _, _, _, _, _, _, _, _, _ => none
 | k_ + 1, v1, v2, v3, v4, v5, v6, v7, v8, v9, H => if v9 < v8 then (ck ((0 : Int) ≤ v9 ∧ v9 < (v7.len : Int)) ((H.ldI .i64 v7.b (v7.o + (v9 : Int).toNat * 1)).bind fun x3 => r17_l1 kt0 k_ v1 (w64 (v2 + (if (w64 (v3 - x3)) < (w64 (x3 - v3)) then (w64 (x3 - v3)) else (w64 (v3 - x3))))) v3 v4 v5 v6 v7 v8 (w64 (v9 + 1)) H))
 else (kt0 v1 v2 v4 v5 (w64 (v6 + 1)) H)
noncomputable def r17_l0 : Nat → Sl → Int → Sl → Int → Int → Hp → Option ((Int × Int) × Hp)
 | 0, _, _, _, _, _, _ => none
 | k_ + 1, v1, v2, v3, v4, v5, H => if v5 < v4 then (ck ((0 : Int) ≤ v5 ∧ v5 < (v3.len : Int)) ((H.ldI .i64 v3.b (v3.o + (v5 : Int).toNat * 1)).bind fun x3 => ck (((0 : Int) ≤ 0 ∧ 0 ≤ v5 ∧ v5 ≤ (v1.cap : Int)) ∧ (v1.opn = 0 ∨ v1.opn = 1)) (r17_l1 (r17_l0 k_) FUEL v1 v2 x3 v3 v4 v5 (v1.cut 1 (0 : Int).toNat (v5 : Int).toNat) ((v1.cut 1 (0 : Int).toNat (v5 : Int).toNat).len : Int) 0 H)))
 else (some ((v2, 0), H))
noncomputable def r17 (a0 : Sl) (H : Hp) : Option ((Int × Int) × Hp) := (r63 ⟨false, H.n, 0, 1, 1, 0⟩ (H.push (.cells [.sl a0] false))).bind fun p1 => if p1.1 = true then (r17_l0 FUEL a0 0 a0 (a0.len : Int) 0 p1.2)
 else (some ((0, 2), p1.2))
/- 21 slices.Equal[[]int,int] -/
def ret21 : Bool → AV := fun r => .bool r
noncomputable def r21_l0 : Nat → Sl → Sl → Int → Int → Hp → Option (Bool × Hp)
 | 0, _, _, _, _, _ => none
 | k_ + 1, v1, v2, v3, v4, H => if v4 < v3 then (ck ((0 : Int) ≤ v4 ∧ v4 < (v1.len : Int)) ((H.ldI .i64 v1.b (v1.o + (v4 : Int).toNat * 1)).bind fun x3 => ck ((0 : Int) ≤ v4 ∧ v4 < (v2.len : Int)) ((H.ldI .i64 v2.b (v2.o + (v4 : Int).toNat * 1)).bind fun x5 => if x3 ≠ x5 then (some (false, H))
  else (r21_l0 k_ v1 v2 v3 (w64 (v4 + 1)) H))))
 else (some (true, H))
noncomputable def r21 (a0 a1 : Sl) (H : Hp) : Option (Bool × Hp) := if (a0.len : Int) ≠ (a1.len : Int) then (some (false, H))
 else (r21_l0 FUEL a0 a1 (a0.len : Int) 0 H)
/- 67 (congou/shares.Give).do -/
def ret67 : Bool → AV := fun r => .bool r
noncomputable def r67_j0 (v1 : Sl) (v2 : Nat) (v3 : Bool) (H : Hp) : Option (Bool × Hp) := if v3 = true then (some (false, H))
 else ((H.ldI .i64 v2 (0 + 0)).bind fun x2 => ck ((0 : Int) ≤ x2 ∧ x2 < (v1.len : Int)) ((H.ldI .i64 v1.b (v1.o + (x2 : Int).toNat * 1)).bind fun x4 => (H.ldI .i64 v2 (0 + 2)).bind fun x5 => ck ((0 : Int) ≤ x2 ∧ x2 < (v1.len : Int)) ((H.st v1.b (v1.o + (x2 : Int).toNat * 1) (.int .i64 (w64 (x4 - x5)))).bind fun H7 => (H7.ldI .i64 v2 (0 + 1)).bind fun x8 => ck ((0 : Int) ≤ x8 ∧ x8 < (v1.len : Int)) ((H7.ldI .i64 v1.b (v1.o + (x8 : Int).toNat * 1)).bind fun x10 => (H7.ldI .i64 v2 (0 + 2)).bind fun x11 => ck ((0 : Int) ≤ x8 ∧ x8 < (v1.len : Int)) ((H7.st v1.b (v1.o + (x8 : Int).toNat * 1) (.int .i64 (w64 (x10 + x11)))).bind fun H13 => some (true, H13))))))
noncomputable def r67 (a0_0 a0_1 a0_2 : Int) (a1 : Sl) (H : Hp) : Option (Bool × Hp) := lt (H.push (.cells [.int .i64 a0_0, .int .i64 a0_1, .int .i64 a0_2] false)) fun H1 => (H1.ldI .i64 H.n (0 + 0)).bind fun x2 => if x2 < 0 then (r67_j0 a1 H.n true H1)
 else ((H1.ldI .i64 H.n (0 + 0)).bind fun x4 => if (a1.len : Int) ≤ x4 then (r67_j0 a1 H.n true H1)
  else ((H1.ldI .i64 H.n (0 + 1)).bind fun x6 => if x6 < 0 then (r67_j0 a1 H.n true H1)
   else ((H1.ldI .i64 H.n (0 + 1)).bind fun x8 => if (a1.len : Int) ≤ x8 then (r67_j0 a1 H.n true H1)
    else ((H1.ldI .i64 H.n (0 + 0)).bind fun x10 => (H1.ldI .i64 H.n (0 + 1)).bind fun x11 => if x10 = x11 then (r67_j0 a1 H.n true H1)
     else ((H1.ldI .i64 H.n (0 + 2)).bind fun x13 => if x13 < 1 then (r67_j0 a1 H.n true H1)
      else ((H1.ldI .i64 H.n (0 + 2)).bind fun x15 => if 20 < x15 then (r67_j0 a1 H.n true H1)
       else ((H1.ldI .i64 H.n (0 + 0)).bind fun x17 => ck ((0 : Int) ≤ x17 ∧ x17 < (a1.len : Int)) ((H1.ldI .i64 a1.b (a1.o + (x17 : Int).toNat * 1)).bind fun x19 => (H1.ldI .i64 H.n (0 + 1)).bind fun x20 => ck ((0 : Int) ≤ x20 ∧ x20 < (a1.len : Int)) ((H1.ldI .i64 a1.b (a1.o + (x20 : Int).toNat * 1)).bind fun x22 => (H1.ldI .i64 H.n (0 + 2)).bind fun x23 => r67_j0 a1 H.n (decide ((w64 (x19 - x22)) < (w64 (2 * x23)))) H1)))))))))
/- 24 congou/shares.CheckGives -/
def ret24 : Bool × Int → AV := fun r => .tup [.bool r.1, .int .i64 r.2]
noncomputable def r24_l0 : Nat → Sl → Sl → Sl → Int → Int → Hp → Option ((Bool × Int) × Hp)
 | 0, _, _, _, _, _, _ => none
 | k_ + 1, v1, v2, v3, v4, v5, H => if v5 < v4 then (ck ((0 : Int) ≤ v5 ∧ v5 < (v3.len : Int)) ((H.ldI .i64 v3.b (v3.o + (v5 : Int).toNat * 3)).bind fun x3 => (H.ldI .i64 v3.b ((v3.o + (v5 : Int).toNat * 3) + 1)).bind fun x4 => (H.ldI .i64 v3.b ((v3.o + (v5 : Int).toNat * 3) + 2)).bind fun x5 => ((H.push (.cells [.int .i64 0, .int .i64 0, .int .i64 0] false)).sts H.n 0 [.int .i64 x3, .int .i64 x4, .int .i64 x5]).bind fun H6 => (H6.ldI .i64 H.n 0).bind fun x7 => (H6.ldI .i64 H.n (0 + 1)).bind fun x8 => (H6.ldI .i64 H.n (0 + 2)).bind fun x9 => (r67 x7 x8 x9 v2 H6).bind fun p10 => if p10.1 = true then (r24_l0 k_ v1 v2 v3 v4 (w64 (v5 + 1)) p10.2)
  else (some ((false, 0), p10.2))))
 else ((r21 v2 v1 H).bind fun p12 => some ((p12.1, 0), p12.2))
noncomputable def r24 (a0 a1 a2 : Sl) (H : Hp) : Option ((Bool × Int) × Hp) := (r63 ⟨false, H.n, 0, 2, 2, 0⟩ (H.push (.cells [.sl a0, .sl a1] false))).bind fun p1 => if p1.1 = true then ((r18 a0 p1.2).bind fun p3 => r24_l0 FUEL a1 p3.1 a2 (a2.len : Int) 0 p3.2)
 else (some ((false, 2), p1.2))
/- 68 congou/sketch.isK -/
def ret68 : Bool → AV := fun r => .bool r
noncomputable def r68 (a0 : Int) (H : Hp) : Option (Bool × Hp) := if 1 ≤ a0 then (some ((decide (a0 ≤ 8)), H))
 else (some (false, H))
/- 74 congou/sketch.isKey -/
def ret74 : Bool → AV := fun r => .bool r
noncomputable def r74 (a0 : Int) (H : Hp) : Option (Bool × Hp) := if 0 ≤ a0 then (some ((decide (a0 < 16)), H))
 else (some (false, H))
/- 122 congou/sketch.isStream$1 -/
def ret122 : Bool → AV := fun r => .bool r
noncomputable def r122 (a0 : Int) (H : Hp) : Option (Bool × Hp) := (r74 a0 H).bind fun p1 => some ((!p1.1), p1.2)
/- 69 congou/sketch.isStream -/
def ret69 : Bool → AV := fun r => .bool r
noncomputable def r69 (app : App) (a0 : Sl) (H : Hp) : Option (Bool × Hp) := if (a0.len : Int) ≤ 40 then ((r121 app a0 (.fn 122 [] []) H).bind fun p2 => some ((!p2.1), p2.2))
 else (some (false, H))
/- 70 congou/sketch.often -/
def ret70 : Int × Int × Int × Int × Int × Int × Int × Int × Int × Int × Int × Int × Int × Int × Int × Int → AV := fun r => .agg [.int .i64 r.1, .int .i64 r.2.1, .int .i64 r.2.2.1, .int .i64 r.2.2.2.1, .int .i64 r.2.2.2.2.1, .int .i64 r.2.2.2.2.2.1, .int .i64 r.2.2.2.2.2.2.1, .int .i64 r.2.2.2.2.2.2.2.1, .int .i64 r.2.2.2.2.2.2.2.2.1, .int .i64 r.2.2.2.2.2.2.2.2.2.1, .int .i64 r.2.2.2.2.2.2.2.2.2.2.1, .int .i64 r.2.2.2.2.2.2.2.2.2.2.2.1, .int .i64 r.2.2.2.2.2.2.2.2.2.2.2.2.1, .int .i64 r.2.2.2.2.2.2.2.2.2.2.2.2.2.1, .int .i64 r.2.2.2.2.2.2.2.2.2.2.2.2.2.2.1, .int .i64 r.2.2.2.2.2.2.2.2.2.2.2.2.2.2.2]
noncomputable def r70_l0 : Nat → Nat → Nat → Sl → Int → Int → Hp → Option ((Int × Int × Int × Int × Int × Int × Int × Int × Int × Int × Int × Int × Int × Int × Int × Int) × Hp)
 | 0, _, _, _, _, _, _ => none
 | k_ + 1, v1, v2, v3, v4, v5, H => if v5 < v4 then (ck ((0 : Int) ≤ v5 ∧ v5 < (v3.len : Int)) ((H.ldI .i64 v3.b (v3.o + (v5 : Int).toNat * 1)).bind fun x3 => ck ((0 : Int) ≤ x3 ∧ x3 < ((16 : Nat) : Int)) ((H.ldI .i64 v2 (0 + (x3 : Int).toNat * 1)).bind fun x5 => ck ((0 : Int) ≤ x3 ∧ x3 < ((16 : Nat) : Int)) ((H.st v2 (0 + (x3 : Int).toNat * 1) (.int .i64 (w64 (x5 + 1)))).bind fun H7 => r70_l0 k_ v1 v2 v3 v4 (w64 (v5 + 1)) H7))))
 else ((H.ldI .i64 v2 0).bind fun x8 => (H.ldI .i64 v2 (0 + 1)).bind fun x9 => (H.ldI .i64 v2 (0 + 2)).bind fun x10 => (H.ldI .i64 v2 (0 + 3)).bind fun x11 => (H.ldI .i64 v2 (0 + 4)).bind fun x12 => (H.ldI .i64 v2 (0 + 5)).bind fun x13 => (H.ldI .i64 v2 (0 + 6)).bind fun x14 => (H.ldI .i64 v2 (0 + 7)).bind fun x15 => (H.ldI .i64 v2 (0 + 8)).bind fun x16 => (H.ldI .i64 v2 (0 + 9)).bind fun x17 => (H.ldI .i64 v2 (0 + 10)).bind fun x18 => (H.ldI .i64 v2 (0 + 11)).bind fun x19 => (H.ldI .i64 v2 (0 + 12)).bind fun x20 => (H.ldI .i64 v2 (0 + 13)).bind fun x21 => (H.ldI .i64 v2 (0 + 14)).bind fun x22 => (H.ldI .i64 v2 (0 + 15)).bind fun x23 => (H.sts v1 0 [.int .i64 x8, .int .i64 x9, .int .i64 x10, .int .i64 x11, .int .i64 x12, .int .i64 x13, .int .i64 x14, .int .i64 x15, .int .i64 x16, .int .i64 x17, .int .i64 x18, .int .i64 x19, .int .i64 x20, .int .i64 x21, .int .i64 x22, .int .i64 x23]).bind fun H24 => (H24.ldI .i64 v1 0).bind fun x25 => (H24.ldI .i64 v1 (0 + 1)).bind fun x26 => (H24.ldI .i64 v1 (0 + 2)).bind fun x27 => (H24.ldI .i64 v1 (0 + 3)).bind fun x28 => (H24.ldI .i64 v1 (0 + 4)).bind fun x29 => (H24.ldI .i64 v1 (0 + 5)).bind fun x30 => (H24.ldI .i64 v1 (0 + 6)).bind fun x31 => (H24.ldI .i64 v1 (0 + 7)).bind fun x32 => (H24.ldI .i64 v1 (0 + 8)).bind fun x33 => (H24.ldI .i64 v1 (0 + 9)).bind fun x34 => (H24.ldI .i64 v1 (0 + 10)).bind fun x35 => (H24.ldI .i64 v1 (0 + 11)).bind fun x36 => (H24.ldI .i64 v1 (0 + 12)).bind fun x37 => (H24.ldI .i64 v1 (0 + 13)).bind fun x38 => (H24.ldI .i64 v1 (0 + 14)).bind fun x39 => (H24.ldI .i64 v1 (0 + 15)).bind fun x40 => some ((x25, x26, x27, x28, x29, x30, x31, x32, x33, x34, x35, x36, x37, x38, x39, x40), H24))
noncomputable def r70 (a0 : Sl) (H : Hp) : Option ((Int × Int × Int × Int × Int × Int × Int × Int × Int × Int × Int × Int × Int × Int × Int × Int) × Hp) := lt (H.push (.cells [.int .i64 0, .int .i64 0, .int .i64 0, .int .i64 0, .int .i64 0, .int .i64 0, .int .i64 0, .int .i64 0, .int .i64 0, .int .i64 0, .int .i64 0, .int .i64 0, .int .i64 0, .int .i64 0, .int .i64 0, .int .i64 0] false)) fun H1 => lt (H1.push (.cells [.int .i64 0, .int .i64 0, .int .i64 0, .int .i64 0, .int .i64 0, .int .i64 0, .int .i64 0, .int .i64 0, .int .i64 0, .int .i64 0, .int .i64 0, .int .i64 0, .int .i64 0, .int .i64 0, .int .i64 0, .int .i64 0] false)) fun H2 => r70_l0 FUEL H.n H1.n a0 (a0.len : Int) 0 H2
/- 25 congou/sketch.Heavy -/
def ret25 : Sl × Int → AV := fun r => .tup [.sl r.1, .int .i64 r.2]
noncomputable def r25_l0 (app : App) : Nat → Int → Sl → Sl → Int → Int → Int → Int → Int → Int → Int → Int → Int → Int → Int → Int → Int → Int → Int → Int → Int → Hp → Option ((Sl × Int) × Hp)
 | 0, _, _, _, _, _, _, _, _, _, _, _, _, _, _, _, _, _, _, _, _, _ => none
 | k_ + 1, v1, v2, v3, v4, v5, v6, v7, v8, v9, v10, v11, v12, v13, v14, v15, v16, v17, v18, v19, v20, H => if v20 < 16 then (ck ((0 : Int) ≤ v20 ∧ v20 < ((16 : Nat) : Int)) ((apart false 1 [.int .i64 v4, .int .i64 v5, .int .i64 v6, .int .i64 v7, .int .i64 v8, .int .i64 v9, .int .i64 v10, .int .i64 v11, .int .i64 v12, .int .i64 v13, .int .i64 v14, .int .i64 v15, .int .i64 v16, .int .i64 v17, .int .i64 v18, .int .i64 v19] ((v20 : Int).toNat * 1)).bind fun x3 => (x3.asI .i64).bind fun x4 => if (v2.len : Int) < (w64 (x4 * (w64 (v1 + 1)))) then ((H.apN 1 v3 [.int .i64 v20] 1).bind fun x6 => r25_l0 app k_ v1 v2 x6.1 v4 v5 v6 v7 v8 v9 v10 v11 v12 v13 v14 v15 v16 v17 v18 v19 (w64 (v20 + 1)) x6.2)
  else (r25_l0 app k_ v1 v2 v3 v4 v5 v6 v7 v8 v9 v10 v11 v12 v13 v14 v15 v16 v17 v18 v19 (w64 (v20 + 1)) H)))
 else (some ((v3, 0), H))
noncomputable def r25_j1 (app : App) (v1 : Int) (v2 : Sl) (v3 : Bool) (H : Hp) : Option ((Sl × Int) × Hp) := if v3 = true then (some ((⟨true, 0, 0, 0, 0, 0⟩, 2), H))
 else ((r70 v2 H).bind fun p2 => r25_l0 app FUEL v1 v2 ⟨true, 0, 0, 0, 0, 0⟩ p2.1.1 p2.1.2.1 p2.1.2.2.1 p2.1.2.2.2.1 p2.1.2.2.2.2.1 p2.1.2.2.2.2.2.1 p2.1.2.2.2.2.2.2.1 p2.1.2.2.2.2.2.2.2.1 p2.1.2.2.2.2.2.2.2.2.1 p2.1.2.2.2.2.2.2.2.2.2.1 p2.1.2.2.2.2.2.2.2.2.2.2.1 p2.1.2.2.2.2.2.2.2.2.2.2.2.1 p2.1.2.2.2.2.2.2.2.2.2.2.2.2.1 p2.1.2.2.2.2.2.2.2.2.2.2.2.2.2.1 p2.1.2.2.2.2.2.2.2.2.2.2.2.2.2.2.1 p2.1.2.2.2.2.2.2.2.2.2.2.2.2.2.2.2 0 p2.2)
noncomputable def r25 (app : App) (a0 : Int) (a1 : Sl) (H : Hp) : Option ((Sl × Int) × Hp) := (r68 a0 H).bind fun p1 => if p1.1 = true then ((r69 app a1 p1.2).bind fun p3 => r25_j1 app a0 a1 (!p3.1) p3.2)
 else (r25_j1 app a0 a1 true p1.2)
/- 29 congou/sketch.Often -/
def ret29 : Int × Int → AV := fun r => .tup [.int .i64 r.1, .int .i64 r.2]
noncomputable def r29_j0 (app : App) (v1 : Sl) (v2 : Int) (v3 : Bool) (H : Hp) : Option ((Int × Int) × Hp) := if v3 = true then (some ((0, 2), H))
 else ((r70 v1 H).bind fun p2 => ck ((0 : Int) ≤ v2 ∧ v2 < ((16 : Nat) : Int)) ((apart false 1 [.int .i64 p2.1.1, .int .i64 p2.1.2.1, .int .i64 p2.1.2.2.1, .int .i64 p2.1.2.2.2.1, .int .i64 p2.1.2.2.2.2.1, .int .i64 p2.1.2.2.2.2.2.1, .int .i64 p2.1.2.2.2.2.2.2.1, .int .i64 p2.1.2.2.2.2.2.2.2.1, .int .i64 p2.1.2.2.2.2.2.2.2.2.1, .int .i64 p2.1.2.2.2.2.2.2.2.2.2.1, .int .i64 p2.1.2.2.2.2.2.2.2.2.2.2.1, .int .i64 p2.1.2.2.2.2.2.2.2.2.2.2.2.1, .int .i64 p2.1.2.2.2.2.2.2.2.2.2.2.2.2.1, .int .i64 p2.1.2.2.2.2.2.2.2.2.2.2.2.2.2.1, .int .i64 p2.1.2.2.2.2.2.2.2.2.2.2.2.2.2.2.1, .int .i64 p2.1.2.2.2.2.2.2.2.2.2.2.2.2.2.2.2] ((v2 : Int).toNat * 1)).bind fun x4 => (x4.asI .i64).bind fun x5 => some ((x5, 0), p2.2)))
noncomputable def r29 (app : App) (a0 : Sl) (a1 : Int) (H : Hp) : Option ((Int × Int) × Hp) := (r69 app a0 H).bind fun p1 => if p1.1 = true then ((r74 a1 p1.2).bind fun p3 => r29_j0 app a0 a1 (!p3.1) p3.2)
 else (r29_j0 app a0 a1 true p1.2)
/- 57 (congou/counts.margins).all -/
def ret57 : Unit → AV := fun _ => .tup []
noncomputable def r57_l0 (app : App) : Nat → Nat → Nat → Nat → Int → Int → Hp → Option (Unit × Hp)
 | 0, _, _, _, _, _, _ => none
 | k_ + 1, v1, v2, v3, v4, v5, H => if v5 < v4 then ((H.ldSl v3 0).bind fun x2 => (H.ldSl v1 (0 + 1)).bind fun x3 => ck ((0 : Int) ≤ (x3.len : Int) ∧ (x3.len : Int) ≤ (x3.len : Int) ∧ (x3.len : Int) ≤ 4294967296) (ck ((0 : Int) ≤ v5 ∧ v5 < (x2.len : Int)) (((H.push (.cells (zerosA [.int .i64 0] (((x3.len : Int) : Int).toNat * 1)) false)).st x2.b (x2.o + (v5 : Int).toNat * 1) (.sl ⟨false, H.n, 0, ((x3.len : Int) : Int).toNat, ((x3.len : Int) : Int).toNat, 0⟩)).bind fun H6 => ck ((H.push (.cells (zerosA [.int .i64 0] (((x3.len : Int) : Int).toNat * 1)) false)).ldSl v3 0 = some x2) (r57_l0 app k_ v1 v2 v3 v4 (w64 (v5 + 1)) H6))))
 else ((H.ldSl v1 (0 + 1)).bind fun x8 => (r18 x8 H).bind fun p9 => ((p9.2.push (.cells [.sl ⟨true, 0, 0, 0, 0, 0⟩] false)).st p9.2.n 0 (.sl p9.1)).bind fun H10 => lt (H10.push (.cells [.nilfn] false)) fun H11 => (H11.st H10.n 0 (.fn 93 [] [.ptr v1 0, .ptr p9.2.n 0, .ptr v2 0, .ptr v3 0, .ptr H10.n 0])).bind fun H12 => (H12.ldV H10.n 0).bind fun x13 => (H12.ldSl v1 (0 + 0)).bind fun x14 => ck ((0 : Int) ≤ 0 ∧ 0 < (x14.len : Int)) ((H12.ldI .i64 x14.b (x14.o + (0 : Int).toNat * 1)).bind fun x16 => (callv app x13 [.int .i64 0, .int .i64 0, .int .i64 x16] H12).bind fun p17 => (p17.1.asB).bind fun x18 => some ((), p17.2)))
noncomputable def r57 (app : App) (a0_0 a0_1 : Sl) (a1 : AV) (H : Hp) : Option (Unit × Hp) := ck (AV.one a1 = true) (lt ((H.push (.cells [.sl a0_0, .sl a0_1] false)).push (.cells [a1] false)) fun H2 => (H2.ldSl H.n (0 + 0)).bind fun x3 => ck ((0 : Int) ≤ (x3.len : Int) ∧ (x3.len : Int) ≤ (x3.len : Int) ∧ (x3.len : Int) ≤ 4294967296) ((((H2.push (.cells (zerosA [.sl ⟨true, 0, 0, 0, 0, 0⟩] (((x3.len : Int) : Int).toNat * 1)) false)).push (.cells [.sl ⟨true, 0, 0, 0, 0, 0⟩] false)).st ((H2.push (.cells (zerosA [.sl ⟨true, 0, 0, 0, 0, 0⟩] (((x3.len : Int) : Int).toNat * 1)) false)).n) 0 (.sl ⟨false, H2.n, 0, ((x3.len : Int) : Int).toNat, ((x3.len : Int) : Int).toNat, 0⟩)).bind fun H5 => (H5.ldSl ((H2.push (.cells (zerosA [.sl ⟨true, 0, 0, 0, 0, 0⟩] (((x3.len : Int) : Int).toNat * 1)) false)).n) 0).bind fun x6 => r57_l0 app FUEL H.n ((H.push (.cells [.sl a0_0, .sl a0_1] false)).n) ((H2.push (.cells (zerosA [.sl ⟨true, 0, 0, 0, 0, 0⟩] (((x3.len : Int) : Int).toNat * 1)) false)).n) (x6.len : Int) 0 H5))
/- 95 (congou/counts.table).clone -/
def ret95 : Sl → AV := fun r => .sl r
noncomputable def r95_l0 : Nat → Sl → Sl → Int → Int → Hp → Option (Sl × Hp)
 | 0, _, _, _, _, _ => none
 | k_ + 1, v1, v2, v3, v4, H => if v4 < v3 then (ck ((0 : Int) ≤ v4 ∧ v4 < (v2.len : Int)) ((H.ldSl v2.b (v2.o + (v4 : Int).toNat * 1)).bind fun x3 => (r18 x3 H).bind fun p4 => (p4.2.apN 1 v1 [.sl p4.1] 1).bind fun x5 => r95_l0 k_ x5.1 v2 v3 (w64 (v4 + 1)) x5.2))
 else (some (v1, H))
noncomputable def r95 (a0 : Sl) (H : Hp) : Option (Sl × Hp) := r95_l0 FUEL ⟨true, 0, 0, 0, 0, 0⟩ a0 (a0.len : Int) 0 H
/- 93 (congou/counts.margins).all$1 -/
def ret93 : Bool → AV := fun r => .bool r
noncomputable def r93_l0 (app : App) : Nat → Int → Int → Int → Nat → Nat → Nat → Int → Int → Hp → Option (Bool × Hp)
 | 0, _, _, _, _, _, _, _, _, _ => none
 | k_ + 1, v1, v2, v3, v4, v5, v6, v7, v8, H => if v8 < v7 then ((H.ldSl v5 0).bind fun x2 => ck ((0 : Int) ≤ v1 ∧ v1 < (x2.len : Int)) ((H.ldSl x2.b (x2.o + (v1 : Int).toNat * 1)).bind fun x4 => ck ((0 : Int) ≤ v2 ∧ v2 < (x4.len : Int)) ((H.st x4.b (x4.o + (v2 : Int).toNat * 1) (.int .i64 v8)).bind fun H6 => (H6.ldSl v4 0).bind fun x7 => ck ((0 : Int) ≤ v2 ∧ v2 < (x7.len : Int)) ((H6.ldI .i64 x7.b (x7.o + (v2 : Int).toNat * 1)).bind fun x9 => ck ((0 : Int) ≤ v2 ∧ v2 < (x7.len : Int)) ((H6.st x7.b (x7.o + (v2 : Int).toNat * 1) (.int .i64 (w64 (x9 - v8)))).bind fun H11 => (H11.ldV v6 0).bind fun x12 => (callv app x12 [.int .i64 v1, .int .i64 (w64 (v2 + 1)), .int .i64 (w64 (v3 - v8))] H11).bind fun p13 => (p13.1.asB).bind fun x14 => (p13.2.ldSl v4 0).bind fun x15 => ck ((0 : Int) ≤ v2 ∧ v2 < (x15.len : Int)) ((p13.2.ldI .i64 x15.b (x15.o + (v2 : Int).toNat * 1)).bind fun x17 => ck ((0 : Int) ≤ v2 ∧ v2 < (x15.len : Int)) ((p13.2.st x15.b (x15.o + (v2 : Int).toNat * 1) (.int .i64 (w64 (x17 + v8)))).bind fun H19 => if x14 = true then (r93_l0 app k_ v1 v2 v3 v4 v5 v6 v7 (w64 (v8 + 1)) H19)
  else (some (false, H19)))))))))
 else (some (true, H))
noncomputable def r93 (app : App) (a0 a1 a2 : Int) (c0 c1 c2 c3 c4 : Nat) (H : Hp) : Option (Bool × Hp) := (H.ldSl c0 (0 + 0)).bind fun x1 => if a0 = (x1.len : Int) then ((H.ldSl c1 0).bind fun x3 => (r94 x3 H).bind fun p4 => if 0 < p4.1 then (some (true, p4.2))
  else ((p4.2.ldV c2 0).bind fun x6 => (p4.2.ldSl c3 0).bind fun x7 => (r95 x7 p4.2).bind fun p8 => (callv app x6 [.sl p8.1] p8.2).bind fun p9 => (p9.1.asB).bind fun x10 => ck (H.isV c2 0 x6 = true) (ck (p8.2.isV c2 0 x6 = true) (some (x10, p9.2)))))
 else ((H.ldSl c0 (0 + 1)).bind fun x13 => if a1 = (x13.len : Int) then (if 0 < a2 then (some (true, H))
   else ((H.ldSl c0 (0 + 0)).bind fun x16 => if (w64 (a0 + 1)) = (x16.len : Int) then ((H.ldV c4 0).bind fun x18 => (callv app x18 [.int .i64 (w64 (a0 + 1)), .int .i64 0, .int .i64 0] H).bind fun p19 => (p19.1.asB).bind fun x20 => some (x20, p19.2))
    else ((H.ldV c4 0).bind fun x21 => (H.ldSl c0 (0 + 0)).bind fun x22 => ck ((0 : Int) ≤ (w64 (a0 + 1)) ∧ (w64 (a0 + 1)) < (x22.len : Int)) ((H.ldI .i64 x22.b (x22.o + (w64 (a0 + 1) : Int).toNat * 1)).bind fun x24 => (callv app x21 [.int .i64 (w64 (a0 + 1)), .int .i64 0, .int .i64 x24] H).bind fun p25 => (p25.1.asB).bind fun x26 => some (x26, p25.2)))))
  else ((H.ldSl c1 0).bind fun x27 => ck ((0 : Int) ≤ a1 ∧ a1 < (x27.len : Int)) ((H.ldI .i64 x27.b (x27.o + (a1 : Int).toNat * 1)).bind fun x29 => r93_l0 app FUEL a0 a1 a2 c1 c3 c4 (w64 ((if x29 < a2 then x29 else a2) + 1)) 0 H)))
/- 153 (*congou/chest.state).stocks -/
def ret153 : Sl → AV := fun r => .sl r
noncomputable def r153_l0 : Nat → Sl → Sl → Int → Int → Hp → Option (Sl × Hp)
 | 0, _, _, _, _, _ => none
 | k_ + 1, v1, v2, v3, v4, H => if v4 < v3 then (ck ((0 : Int) ≤ v4 ∧ v4 < (v2.len : Int)) ((H.ldStr v2.b (v2.o + (v4 : Int).toNat * 2)).bind fun x3 => (H.ldI .i64 v2.b ((v2.o + (v4 : Int).toNat * 2) + 1)).bind fun x4 => ((H.push (.cells [.str (ByteArray.mk #[]), .int .i64 0] false)).sts H.n 0 [.str x3, .int .i64 x4]).bind fun H5 => (H5.ldI .i64 H.n (0 + 1)).bind fun x6 => (H5.apN 1 v1 [.int .i64 x6] 1).bind fun x7 => r153_l0 k_ x7.1 v2 v3 (w64 (v4 + 1)) x7.2))
 else (some (v1, H))
noncomputable def r153 (a0b a0o : Nat) (H : Hp) : Option (Sl × Hp) := (H.ldSl a0b (a0o + 0)).bind fun x1 => r153_l0 FUEL ⟨true, 0, 0, 0, 0, 0⟩ x1 (x1.len : Int) 0 H
/- 98 (*congou/chest.state).gap -/
def ret98 : Sl × Int → AV := fun r => .tup [.sl r.1, .int .i64 r.2]
noncomputable def r98 (app : App) (a0b a0o : Nat) (a1_0 a1_1 : Sl) (H : Hp) : Option ((Sl × Int) × Hp) := lt (H.push (.cells [.sl a1_0, .sl a1_1] false)) fun H1 => (H1.ldSl a0b (a0o + 0)).bind fun x2 => if (x2.len : Int) = 0 then (some ((⟨true, 0, 0, 0, 0, 0⟩, 4), H1))
 else ((r153 a0b a0o H1).bind fun p4 => (r17 p4.1 p4.2).bind fun p5 => (r134 app ⟨false, p5.2.n, 0, 1, 1, 0⟩ (p5.2.push (.cells [.int .i64 p5.1.1] false))).bind fun p6 => some ((p6.1, p5.1.2), p6.2))
/- 99 (*congou/chest.state).heavy -/
def ret99 : Sl × Int → AV := fun r => .tup [.sl r.1, .int .i64 r.2]
noncomputable def r99 (app : App) (a0b a0o : Nat) (a1_0 a1_1 : Sl) (H : Hp) : Option ((Sl × Int) × Hp) := lt (H.push (.cells [.sl a1_0, .sl a1_1] false)) fun H1 => (H1.ldSl H.n (0 + 1)).bind fun x2 => ck ((0 : Int) ≤ 0 ∧ 0 < (x2.len : Int)) ((H1.ldI .i64 x2.b (x2.o + (0 : Int).toNat * 1)).bind fun x4 => (H1.ldSl a0b (a0o + 1)).bind fun x5 => (r25 app x4 x5 H1).bind fun p6 => (r133 a0b a0o p6.1.1 p6.2).bind fun p7 => some ((p7.1, p6.1.2), p7.2))
/- 197 slices.IndexFunc[[]congou/chest.leaf,congou/chest.leaf] -/
def ret197 : Int → AV := fun r => .int .i64 r
noncomputable def r197_l0 (app : App) : Nat → Sl → AV → Int → Int → Hp → Option (Int × Hp)
 | 0, _, _, _, _, _ => none
 | k_ + 1, v1, v2, v3, v4, H => if v4 < v3 then (ck ((0 : Int) ≤ v4 ∧ v4 < (v1.len : Int)) ((H.ldStr v1.b (v1.o + (v4 : Int).toNat * 2)).bind fun x3 => (H.ldI .i64 v1.b ((v1.o + (v4 : Int).toNat * 2) + 1)).bind fun x4 => (callv app v2 [.agg [.str x3, .int .i64 x4]] H).bind fun p5 => (p5.1.asB).bind fun x6 => if x6 = true then (some (v4, p5.2))
  else (r197_l0 app k_ v1 v2 v3 (w64 (v4 + 1)) p5.2)))
 else (some ((-1), H))
noncomputable def r197 (app : App) (a0 : Sl) (a1 : AV) (H : Hp) : Option (Int × Hp) := r197_l0 app FUEL a0 a1 (a0.len : Int) 0 H
/- 154 (*congou/chest.state).find -/
def ret154 : Int → AV := fun r => .int .i64 r
noncomputable def r154 (app : App) (a0b a0o : Nat) (a1 : ByteArray) (H : Hp) : Option (Int × Hp) := lt (H.push (.cells [.str a1] false)) fun H1 => (H1.ldSl a0b (a0o + 0)).bind fun x2 => (r197 app x2 (.fn 198 [] [.ptr H.n 0]) H1).bind fun p3 => some (p3.1, p3.2)
/- 100 (*congou/chest.state).often -/
def ret100 : Sl × Int → AV := fun r => .tup [.sl r.1, .int .i64 r.2]
noncomputable def r100 (app : App) (a0b a0o : Nat) (a1_0 a1_1 : Sl) (H : Hp) : Option ((Sl × Int) × Hp) := lt (H.push (.cells [.sl a1_0, .sl a1_1] false)) fun H1 => (H1.ldSl H.n (0 + 0)).bind fun x2 => ck ((0 : Int) ≤ 0 ∧ 0 < (x2.len : Int)) ((H1.ldStr x2.b (x2.o + (0 : Int).toNat * 1)).bind fun x4 => (r154 app a0b a0o x4 H1).bind fun p5 => if p5.1 < 0 then (some ((⟨true, 0, 0, 0, 0, 0⟩, 4), p5.2))
 else ((p5.2.ldSl a0b (a0o + 1)).bind fun x7 => (r29 app x7 p5.1 p5.2).bind fun p8 => (r134 app ⟨false, p8.2.n, 0, 1, 1, 0⟩ (p8.2.push (.cells [.int .i64 p8.1.1] false))).bind fun p9 => some ((p9.1, p8.1.2), p9.2)))
/- 155 congou/chest.fracs -/
def ret155 : Sl → AV := fun r => .sl r
noncomputable def r155_l0 (app : App) : Nat → Sl → Sl → Int → Int → Hp → Option (Sl × Hp)
 | 0, _, _, _, _, _ => none
 | k_ + 1, v1, v2, v3, v4, H => if v4 < v3 then (ck ((0 : Int) ≤ v4 ∧ v4 < (v2.len : Int)) ((H.ldI .i64 v2.b (v2.o + (v4 : Int).toNat * 2)).bind fun x3 => (H.ldI .i64 v2.b ((v2.o + (v4 : Int).toNat * 2) + 1)).bind fun x4 => ((H.push (.cells [.int .i64 0, .int .i64 0] false)).sts H.n 0 [.int .i64 x3, .int .i64 x4]).bind fun H5 => (H5.ldI .i64 H.n (0 + 0)).bind fun x6 => (app 33 [.int .i64 x6] H5).bind fun p7 => (p7.1.asStr).bind fun x8 => ck (x8.size + (ByteArray.mk #[47]).size ≤ 9223372036854775807) ((p7.2.ldI .i64 H.n (0 + 1)).bind fun x10 => (app 33 [.int .i64 x10] p7.2).bind fun p11 => (p11.1.asStr).bind fun x12 => ck ((x8 ++ (ByteArray.mk #[47])).size + x12.size ≤ 9223372036854775807) ((p11.2.apN 1 v1 [.str ((x8 ++ (ByteArray.mk #[47])) ++ x12)] 1).bind fun x14 => ck (H5.ldI .i64 H.n (0 + 1) = some x10) (r155_l0 app k_ x14.1 v2 v3 (w64 (v4 + 1)) x14.2)))))
 else (some (v1, H))
noncomputable def r155 (app : App) (a0 : Sl) (H : Hp) : Option (Sl × Hp) := r155_l0 app FUEL ⟨true, 0, 0, 0, 0, 0⟩ a0 (a0.len : Int) 0 H
/- 101 (*congou/chest.state).tail -/
def ret101 : Sl × Int → AV := fun r => .tup [.sl r.1, .int .i64 r.2]
noncomputable def r101 (app : App) (a0b a0o : Nat) (a1_0 a1_1 : Sl) (H : Hp) : Option ((Sl × Int) × Hp) := lt (H.push (.cells [.sl a1_0, .sl a1_1] false)) fun H1 => (r13 app ⟨false, H1.n, 0, 2, 2, 0⟩ (H1.push (.cells [.sl ⟨false, a0b, ((a0o + 2) + (0 : Int).toNat * 2) + (0 : Int).toNat * 1, (((2 : Nat) : Int) : Int).toNat - (0 : Int).toNat, 2 - (0 : Int).toNat, 0⟩, .sl ⟨false, a0b, ((a0o + 2) + (1 : Int).toNat * 2) + (0 : Int).toNat * 1, (((2 : Nat) : Int) : Int).toNat - (0 : Int).toNat, 2 - (0 : Int).toNat, 0⟩] false))).bind fun p2 => ((p2.2.push (.cells [.int .i64 0, .int .i64 0] false)).sts p2.2.n 0 [.int .i64 p2.1.1, .int .i64 p2.1.2.1]).bind fun H3 => (H3.ldI .i64 p2.2.n 0).bind fun x4 => (H3.ldI .i64 p2.2.n (0 + 1)).bind fun x5 => (r155 app ⟨false, H3.n, 0, 1, 1, 0⟩ (H3.push (.cells [.int .i64 x4, .int .i64 x5] false))).bind fun p6 => some ((p6.1, p2.1.2.2), p6.2)
/- 112 (*congou/chest.state).leaf -/
def ret112 : Int → AV := fun r => .int .i64 r
noncomputable def r112 (app : App) (a0b a0o : Nat) (a1_0 a1_1 : Sl) (H : Hp) : Option (Int × Hp) := lt (H.push (.cells [.sl a1_0, .sl a1_1] false)) fun H1 => (H1.ldSl H.n (0 + 0)).bind fun x2 => ck ((0 : Int) ≤ 0 ∧ 0 < (x2.len : Int)) ((H1.ldStr x2.b (x2.o + (0 : Int).toNat * 1)).bind fun x4 => (r154 app a0b a0o x4 H1).bind fun p5 => if 0 ≤ p5.1 then (some (5, p5.2))
 else ((p5.2.ldSl H.n (0 + 1)).bind fun x7 => ck ((0 : Int) ≤ 0 ∧ 0 < (x7.len : Int)) ((p5.2.ldI .i64 x7.b (x7.o + (0 : Int).toNat * 1)).bind fun x9 => if 20 < x9 then (some (2, p5.2))
  else ((p5.2.ldSl a0b (a0o + 0)).bind fun x11 => if (x11.len : Int) = 6 then (some (7, p5.2))
   else ((p5.2.ldSl a0b (a0o + 0)).bind fun x13 => (p5.2.ldSl H.n (0 + 0)).bind fun x14 => ck ((0 : Int) ≤ 0 ∧ 0 < (x14.len : Int)) ((p5.2.ldStr x14.b (x14.o + (0 : Int).toNat * 1)).bind fun x16 => (p5.2.ldSl H.n (0 + 1)).bind fun x17 => ck ((0 : Int) ≤ 0 ∧ 0 < (x17.len : Int)) ((p5.2.ldI .i64 x17.b (x17.o + (0 : Int).toNat * 1)).bind fun x19 => (p5.2.apN 2 x13 [.str x16, .int .i64 x19] 1).bind fun x20 => (x20.2.st a0b (a0o + 0) (.sl x20.1)).bind fun H21 => some (0, H21))))))))
/- 113 (*congou/chest.state).give -/
def ret113 : Int → AV := fun r => .int .i64 r
noncomputable def r113_l1 (app : App) : Nat → Nat → Nat → Sl → Int → Int → Hp → Option (Int × Hp)
 | 0, _, _, _, _, _, _ => none
 | k_ + 1, v1, v2, v3, v4, v5, H => if v5 < v4 then (ck ((0 : Int) ≤ v5 ∧ v5 < (v3.len : Int)) ((H.ldI .i64 v3.b (v3.o + (v5 : Int).toNat * 1)).bind fun x3 => (H.ldSl v1 (v2 + 0)).bind fun x4 => ck ((0 : Int) ≤ v5 ∧ v5 < (x4.len : Int)) ((H.st x4.b ((x4.o + (v5 : Int).toNat * 2) + 1) (.int .i64 x3)).bind fun H6 => r113_l1 app k_ v1 v2 v3 v4 (w64 (v5 + 1)) H6)))
 else (some (0, H))
noncomputable def r113_j2 (app : App) (v1 v2 : Nat) (v3 : Sl) (v4 : Bool) (H : Hp) : Option (Int × Hp) := if v4 = true then (some (5, H))
 else (r113_l1 app FUEL v1 v2 v3 (v3.len : Int) 0 H)
noncomputable def r113_j0 (app : App) (v1 v2 : Nat) (v3 v4 v5 : Int) (v6 : Bool) (H : Hp) : Option (Int × Hp) := if v6 = true then (some (4, H))
 else ((r153 v1 v2 H).bind fun p2 => (r18 p2.1 p2.2).bind fun p3 => ck ((0 : Int) ≤ v3 ∧ v3 < (p3.1.len : Int)) ((p3.2.ldI .i64 p3.1.b (p3.1.o + (v3 : Int).toNat * 1)).bind fun x5 => ck ((0 : Int) ≤ v3 ∧ v3 < (p3.1.len : Int)) ((p3.2.st p3.1.b (p3.1.o + (v3 : Int).toNat * 1) (.int .i64 (w64 (x5 - v5)))).bind fun H7 => ck ((0 : Int) ≤ v4 ∧ v4 < (p3.1.len : Int)) ((H7.ldI .i64 p3.1.b (p3.1.o + (v4 : Int).toNat * 1)).bind fun x9 => ck ((0 : Int) ≤ v4 ∧ v4 < (p3.1.len : Int)) ((H7.st p3.1.b (p3.1.o + (v4 : Int).toNat * 1) (.int .i64 (w64 (x9 + v5)))).bind fun H11 => (r24 p2.1 p3.1 ⟨false, H11.n, 0, 1, 1, 0⟩ (H11.push (.cells [.int .i64 v3, .int .i64 v4, .int .i64 v5] false))).bind fun p12 => if p12.1.1 = true then (r113_j2 app v1 v2 p3.1 (decide (p12.1.2 ≠ 0)) p12.2)
  else (r113_j2 app v1 v2 p3.1 true p12.2))))))
noncomputable def r113 (app : App) (a0b a0o : Nat) (a1_0 a1_1 : Sl) (H : Hp) : Option (Int × Hp) := lt (H.push (.cells [.sl a1_0, .sl a1_1] false)) fun H1 => (H1.ldSl H.n (0 + 0)).bind fun x2 => ck ((0 : Int) ≤ 0 ∧ 0 < (x2.len : Int)) ((H1.ldStr x2.b (x2.o + (0 : Int).toNat * 1)).bind fun x4 => (r154 app a0b a0o x4 H1).bind fun p5 => (p5.2.ldSl H.n (0 + 0)).bind fun x6 => ck ((0 : Int) ≤ 1 ∧ 1 < (x6.len : Int)) ((p5.2.ldStr x6.b (x6.o + (1 : Int).toNat * 1)).bind fun x8 => (r154 app a0b a0o x8 p5.2).bind fun p9 => (p9.2.ldSl H.n (0 + 1)).bind fun x10 => ck ((0 : Int) ≤ 0 ∧ 0 < (x10.len : Int)) ((p9.2.ldI .i64 x10.b (x10.o + (0 : Int).toNat * 1)).bind fun x12 => ck (H1.ldSl H.n (0 + 0) = some x6) (ck (H1.ldStr x6.b (x6.o + (1 : Int).toNat * 1) = some x8) (ck (H1.ldSl H.n (0 + 1) = some x10) (ck (H1.ldI .i64 x10.b (x10.o + (0 : Int).toNat * 1) = some x12) (ck (p5.2.ldSl H.n (0 + 1) = some x10) (ck (p5.2.ldI .i64 x10.b (x10.o + (0 : Int).toNat * 1) = some x12) (ck (p9.2.ldSl H.n (0 + 0) = some x6) (ck (p9.2.ldStr x6.b (x6.o + (1 : Int).toNat * 1) = some x8) (if p5.1 < 0 then (r113_j0 app a0b a0o p5.1 p9.1 x12 true p9.2)
 else (r113_j0 app a0b a0o p5.1 p9.1 x12 (decide (p9.1 < 0)) p9.2))))))))))))
/- 114 (*congou/chest.state).order -/
def ret114 : Int → AV := fun r => .int .i64 r
noncomputable def r114 (app : App) (a0b a0o : Nat) (a1_0 a1_1 : Sl) (H : Hp) : Option (Int × Hp) := lt (H.push (.cells [.sl a1_0, .sl a1_1] false)) fun H1 => (H1.ldSl H.n (0 + 0)).bind fun x2 => ck ((0 : Int) ≤ 0 ∧ 0 < (x2.len : Int)) ((H1.ldStr x2.b (x2.o + (0 : Int).toNat * 1)).bind fun x4 => (r154 app a0b a0o x4 H1).bind fun p5 => if p5.1 < 0 then (some (4, p5.2))
 else ((p5.2.ldSl a0b (a0o + 0)).bind fun x7 => ck ((0 : Int) ≤ p5.1 ∧ p5.1 < (x7.len : Int)) ((p5.2.ldI .i64 x7.b ((x7.o + (p5.1 : Int).toNat * 2) + 1)).bind fun x9 => if x9 = 0 then (some (5, p5.2))
  else ((p5.2.ldSl a0b (a0o + 1)).bind fun x11 => if (x11.len : Int) = 40 then (some (7, p5.2))
   else ((p5.2.ldSl a0b (a0o + 0)).bind fun x13 => ck ((0 : Int) ≤ p5.1 ∧ p5.1 < (x13.len : Int)) ((p5.2.ldI .i64 x13.b ((x13.o + (p5.1 : Int).toNat * 2) + 1)).bind fun x15 => ck ((0 : Int) ≤ p5.1 ∧ p5.1 < (x13.len : Int)) ((p5.2.st x13.b ((x13.o + (p5.1 : Int).toNat * 2) + 1) (.int .i64 (w64 (x15 - 1)))).bind fun H17 => (H17.ldSl a0b (a0o + 1)).bind fun x18 => (H17.apN 1 x18 [.int .i64 p5.1] 1).bind fun x19 => (x19.2.st a0b (a0o + 1) (.sl x19.1)).bind fun H20 => some (0, H20))))))))
/- 115 (*congou/chest.state).taste -/
def ret115 : Int → AV := fun r => .int .i64 r
noncomputable def r115_j1 (v1 v2 : Nat) (v3 v4 v5 : Int) (v6 : Bool) (H : Hp) : Option (Int × Hp) := if v6 = true then (some (2, H))
 else (if v5 = 16 then (some (7, H))
  else (ck ((0 : Int) ≤ v3 ∧ v3 < ((2 : Nat) : Int)) (ck ((0 : Int) ≤ v4 ∧ v4 < ((2 : Nat) : Int)) ((H.ldI .i64 v1 (((v2 + 2) + (v3 : Int).toNat * 2) + (v4 : Int).toNat * 1)).bind fun x5 => ck ((0 : Int) ≤ v3 ∧ v3 < ((2 : Nat) : Int)) (ck ((0 : Int) ≤ v4 ∧ v4 < ((2 : Nat) : Int)) ((H.st v1 (((v2 + 2) + (v3 : Int).toNat * 2) + (v4 : Int).toNat * 1) (.int .i64 (w64 (x5 + 1)))).bind fun H8 => some (0, H8)))))))
noncomputable def r115_l0 : Nat → Nat → Nat → Int → Int → Int → Int → Int → Int → Int → Int → Hp → Option (Int × Hp)
 | 0, _, _, _, _, _, _, _, _, _, _, _ => none
 | k_ + 1, v1, v2, v3, v4, v5, v6, v7, v8, v9, v10, H => if v10 < 2 then (ck ((0 : Int) ≤ v10 ∧ v10 < ((2 : Nat) : Int)) ((apart true 2 [.int .i64 v6, .int .i64 v7, .int .i64 v8, .int .i64 v9] ((v10 : Int).toNat * 2)).bind fun x3 => (x3.asA).bind fun x4 => ck (x4.length = 2) ((x4[0]?).bind fun x6 => (x6.asI .i64).bind fun x7 => (x4[1]?).bind fun x8 => (x8.asI .i64).bind fun x9 => ((H.push (.cells [.int .i64 0, .int .i64 0] false)).sts H.n 0 [.int .i64 x7, .int .i64 x9]).bind fun H10 => (H10.ldI .i64 H.n (0 + (0 : Int).toNat * 1)).bind fun x11 => (H10.ldI .i64 H.n (0 + (1 : Int).toNat * 1)).bind fun x12 => r115_l0 k_ v1 v2 v3 v4 (w64 (v5 + (w64 (x11 + x12)))) v6 v7 v8 v9 (w64 (v10 + 1)) H10)))
 else (if 1 < v3 then (r115_j1 v1 v2 v3 v4 v5 true H)
  else (r115_j1 v1 v2 v3 v4 v5 (decide (1 < v4)) H))
noncomputable def r115 (a0b a0o : Nat) (a1_0 a1_1 : Sl) (H : Hp) : Option (Int × Hp) := lt (H.push (.cells [.sl a1_0, .sl a1_1] false)) fun H1 => (H1.ldSl H.n (0 + 1)).bind fun x2 => ck ((0 : Int) ≤ 0 ∧ 0 < (x2.len : Int)) ((H1.ldI .i64 x2.b (x2.o + (0 : Int).toNat * 1)).bind fun x4 => (H1.ldSl H.n (0 + 1)).bind fun x5 => ck ((0 : Int) ≤ 1 ∧ 1 < (x5.len : Int)) ((H1.ldI .i64 x5.b (x5.o + (1 : Int).toNat * 1)).bind fun x7 => (H1.ldI .i64 a0b (a0o + 2)).bind fun x8 => (H1.ldI .i64 a0b ((a0o + 2) + 1)).bind fun x9 => (H1.ldI .i64 a0b ((a0o + 2) + 2)).bind fun x10 => (H1.ldI .i64 a0b ((a0o + 2) + 3)).bind fun x11 => r115_l0 FUEL a0b a0o x4 x7 0 x8 x9 x10 x11 0 H1))
/- 230 slices.Index[[][2]int,[2]int] -/
def ret230 : Int → AV := fun r => .int .i64 r
noncomputable def r230_l0 : Nat → Sl → Nat → Int → Int → Hp → Option (Int × Hp)
 | 0, _, _, _, _, _ => none
 | k_ + 1, v1, v2, v3, v4, H => if v4 < v3 then ((H.ldI .i64 v2 0).bind fun x2 => (H.ldI .i64 v2 (0 + 1)).bind fun x3 => ck ((0 : Int) ≤ v4 ∧ v4 < (v1.len : Int)) ((H.ldI .i64 v1.b (v1.o + (v4 : Int).toNat * 2)).bind fun x5 => (H.ldI .i64 v1.b ((v1.o + (v4 : Int).toNat * 2) + 1)).bind fun x6 => if (AV.keqs [.int .i64 x2, .int .i64 x3] [.int .i64 x5, .int .i64 x6]) = true then (some (v4, H))
  else (r230_l0 k_ v1 v2 v3 (w64 (v4 + 1)) H)))
 else (some ((-1), H))
noncomputable def r230 (a0 : Sl) (a1_0 a1_1 : Int) (H : Hp) : Option (Int × Hp) := lt (H.push (.cells [.int .i64 a1_0, .int .i64 a1_1] false)) fun H1 => r230_l0 FUEL a0 H.n (a0.len : Int) 0 H1
/- 170 slices.Contains[[][2]int,[2]int] -/
def ret170 : Bool → AV := fun r => .bool r
noncomputable def r170 (a0 : Sl) (a1_0 a1_1 : Int) (H : Hp) : Option (Bool × Hp) := lt (H.push (.cells [.int .i64 a1_0, .int .i64 a1_1] false)) fun H1 => (H1.ldI .i64 H.n 0).bind fun x2 => (H1.ldI .i64 H.n (0 + 1)).bind fun x3 => (r230 a0 x2 x3 H1).bind fun p4 => some ((decide (0 ≤ p4.1)), p4.2)
/- 116 (*congou/chest.state).offer -/
def ret116 : Int → AV := fun r => .int .i64 r
noncomputable def r116 (a0b a0o : Nat) (a1_0 a1_1 : Sl) (H : Hp) : Option (Int × Hp) := lt (H.push (.cells [.sl a1_0, .sl a1_1] false)) fun H1 => (H1.ldSl H.n (0 + 1)).bind fun x2 => ck ((0 : Int) ≤ 0 ∧ 0 < (x2.len : Int)) ((H1.ldI .i64 x2.b (x2.o + (0 : Int).toNat * 1)).bind fun x4 => (H1.ldSl H.n (0 + 1)).bind fun x5 => ck ((0 : Int) ≤ 1 ∧ 1 < (x5.len : Int)) ((H1.ldI .i64 x5.b (x5.o + (1 : Int).toNat * 1)).bind fun x7 => ((H1.push (.cells [.int .i64 0, .int .i64 0] false)).sts H1.n 0 [.int .i64 x4, .int .i64 x7]).bind fun H8 => (H8.ldSl a0b (a0o + 6)).bind fun x9 => (H8.ldI .i64 H1.n 0).bind fun x10 => (H8.ldI .i64 H1.n (0 + 1)).bind fun x11 => (r170 x9 x10 x11 H8).bind fun p12 => if p12.1 = true then (some (5, p12.2))
 else ((p12.2.ldI .i64 H1.n (0 + (0 : Int).toNat * 1)).bind fun x14 => (p12.2.ldI .i64 H1.n (0 + (1 : Int).toNat * 1)).bind fun x15 => if 30 < (if x14 < x15 then x15 else x14) then (some (2, p12.2))
  else ((p12.2.ldSl a0b (a0o + 6)).bind fun x17 => if (x17.len : Int) = 8 then (some (7, p12.2))
   else ((p12.2.ldSl a0b (a0o + 6)).bind fun x19 => (p12.2.ldI .i64 H1.n 0).bind fun x20 => (p12.2.ldI .i64 H1.n (0 + 1)).bind fun x21 => (p12.2.apN 2 x19 [.int .i64 x20, .int .i64 x21] 1).bind fun x22 => (x22.2.st a0b (a0o + 6) (.sl x22.1)).bind fun H23 => some (0, H23))))))
/- 118 (*congou/chest.Chest).child$1 -/
def ret118 : Bool → AV := fun r => .bool r
noncomputable def r118 (a0_0 : ByteArray) (a0_1 : Int) (a0_2b a0_2o c0 c1 : Nat) (H : Hp) : Option (Bool × Hp) := lt (H.push (.cells [.str a0_0, .int .i64 a0_1, .ptr a0_2b a0_2o] false)) fun H1 => (H1.ldStr H.n (0 + 0)).bind fun x2 => (H1.ldStr c0 0).bind fun x3 => if (strEq x2 x3) = true then ((H1.ldI .i64 H.n (0 + 1)).bind fun x5 => (H1.ldI .i64 c1 0).bind fun x6 => if x5 = x6 then ((H1.ldStr H.n (0 + 0)).bind fun x8 => some ((!(strEq x8 (ByteArray.mk #[]))), H1))
  else (some (false, H1)))
 else (some (false, H1))
/- 130 (*congou/chest.Chest).has$1 -/
def ret130 : Bool → AV := fun r => .bool r
noncomputable def r130 (a0 : Int) (c0 : Nat) (H : Hp) : Option (Bool × Hp) := if a0 < 0 then (some (true, H))
 else ((H.ldP c0 0).bind fun x2 => (H.ldSl x2.1 (x2.2 + 0)).bind fun x3 => some ((decide ((x3.len : Int) ≤ a0)), H))
/- 132 (*congou/chest.state).text$1 -/
def ret132 : Unit → AV := fun _ => .tup []
noncomputable def r132 (app : App) (a0 : ByteArray) (a1 : Sl) (c0 : Nat) (H : Hp) : Option (Unit × Hp) := ((H.push (.cells [.str a0] false)).lds a1.b a1.o (a1.len * 1)).bind fun x1 => ck (x1.all AV.one = true) (((H.push (.cells [.str a0] false)).app 1 ⟨false, H.n, 0, 1, 1, 0⟩ x1 a1.len).bind fun x3 => (app 109 [.sl x3.1, .str (ByteArray.mk #[32])] x3.2).bind fun p4 => (p4.1.asStr).bind fun x5 => ck (x5.size + (ByteArray.mk #[10]).size ≤ 9223372036854775807) ((app 131 [.ptr c0 0, .str (x5 ++ (ByteArray.mk #[10]))] p4.2).bind fun p7 => (p7.1.asT).bind fun x8 => ck (x8.length = 2) ((x8[0]?).bind fun x10 => (x10.asI .i64).bind fun x11 => (x8[1]?).bind fun x12 => some ((), p7.2))))
/- 198 (*congou/chest.state).find$1 -/
def ret198 : Bool → AV := fun r => .bool r
noncomputable def r198 (a0_0 : ByteArray) (a0_1 : Int) (c0 : Nat) (H : Hp) : Option (Bool × Hp) := lt (H.push (.cells [.str a0_0, .int .i64 a0_1] false)) fun H1 => (H1.ldStr H.n (0 + 0)).bind fun x2 => (H1.ldStr c0 0).bind fun x3 => some ((strEq x2 x3), H1)
end Go.Lt.P10
