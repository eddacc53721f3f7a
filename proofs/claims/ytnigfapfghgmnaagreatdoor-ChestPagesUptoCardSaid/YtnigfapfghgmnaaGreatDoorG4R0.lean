/- PRINTED BY A PROGRAM OF OURS: what each function that 'ChestPages' reaches computes on the abstract heap, and that the translated code does just that. Nothing is asked of the input. -/
import Derived.Test.YtnigfapfghgmnaaGreatDoorG4T
set_option linter.unusedVariables false
set_option linter.unusedSimpArgs false
set_option maxRecDepth 100000
set_option maxHeartbeats 4000000
namespace Go.Lt.P10
open Go Go.Lt Go.Proofs
/- 28 (*congou/chest.Chest).none -/
def ret28 : Bool → AV := fun r => .bool r
noncomputable def r28 (a0b : Nat) (a0o : Nat) (H : Hp) : Option (Bool × Hp) :=
  (H.ldSl a0b (a0o + 0)).bind fun x1 =>
  some ((decide ((x1.len : Int) = 0)), H)
/- 70 slices.IndexFunc[[]int,int] -/
def ret70 : Int → AV := fun r => .int .i64 r
noncomputable def r70_l0 (app : App) : Nat → Sl → AV → Int → Int → Hp → Option (Int × Hp)
  | 0, _, _, _, _, _ => none
  | k_ + 1, v1, v2, v3, v4, H => if v4 < v3 then
    (ck ((0 : Int) ≤ v4 ∧ v4 < (v1.len : Int)) (
    (H.ldI .i64 v1.b (v1.o + (v4 : Int).toNat * 1)).bind fun x3 =>
    (callv app v2 [.int .i64 x3] H).bind fun p4 =>
    (p4.1.asB).bind fun x5 =>
    if x5 = true then
      (some (v4, p4.2))
    else
      (r70_l0 app k_ v1 v2 v3 (w64 (v4 + 1)) p4.2)))
  else
    (some ((-1), H))
noncomputable def r70 (app : App) (a0 : Sl) (a1 : AV) (H : Hp) : Option (Int × Hp) :=
  r70_l0 app FUEL a0 a1 (a0.len : Int) 0 H
/- 40 slices.ContainsFunc[[]int,int] -/
def ret40 : Bool → AV := fun r => .bool r
noncomputable def r40 (app : App) (a0 : Sl) (a1 : AV) (H : Hp) : Option (Bool × Hp) :=
  (r70 app a0 a1 H).bind fun p1 =>
  some ((decide (0 ≤ p1.1)), p1.2)
/- 29 (*congou/chest.Chest).has -/
def ret29 : Bool → AV := fun r => .bool r
noncomputable def r29 (app : App) (a0b : Nat) (a0o : Nat) (a1 : Sl) (H : Hp) : Option (Bool × Hp) :=
  lt (H.push (.cells [.ptr a0b a0o] false)) fun H1 =>
  (r40 app a1 (.fn 41 [] [.ptr H.n 0]) H1).bind fun p2 =>
  some ((!p2.1), p2.2)
/- 10 (*congou/chest.Chest).Go -/
def ret10 : Int → AV := fun r => .int .i64 r
noncomputable def r10 (app : App) (a0b : Nat) (a0o : Nat) (a1 : Int) (H : Hp) : Option (Int × Hp) :=
  (r28 a0b a0o H).bind fun p1 =>
  if p1.1 = true then
    (some (1, p1.2))
  else
    ((r29 app a0b a0o ⟨false, p1.2.n, 0, 1, 1, 0⟩ (p1.2.push (.cells [.int .i64 a1] false))).bind fun p3 =>
    if p3.1 = true then
      ((p3.2.st a0b (a0o + 1) (.int .i64 a1)).bind fun H5 =>
      some (0, H5))
    else
      (some (2, p3.2)))
/- 14 congou/chest.New -/
def ret14 : Nat × Nat → AV := fun r => .ptr r.1 r.2
noncomputable def r14 (H : Hp) : Option ((Nat × Nat) × Hp) :=
  lt (((H.push (.cells [.sl ⟨true, 0, 0, 0, 0, 0⟩, .sl ⟨true, 0, 0, 0, 0, 0⟩, .int .i64 0, .int .i64 0, .int .i64 0, .int .i64 0, .sl ⟨true, 0, 0, 0, 0, 0⟩] false)).push (.cells [.str (ByteArray.mk #[]), .int .i64 0, .ptr H.n 0] false)).push (.cells [.sl ⟨false, (H.push (.cells [.sl ⟨true, 0, 0, 0, 0, 0⟩, .sl ⟨true, 0, 0, 0, 0, 0⟩, .int .i64 0, .int .i64 0, .int .i64 0, .int .i64 0, .sl ⟨true, 0, 0, 0, 0, 0⟩] false)).n, 0, 1, 1, 0⟩, .int .i64 0] false)) fun H1 =>
  some ((((H.push (.cells [.sl ⟨true, 0, 0, 0, 0, 0⟩, .sl ⟨true, 0, 0, 0, 0, 0⟩, .int .i64 0, .int .i64 0, .int .i64 0, .int .i64 0, .sl ⟨true, 0, 0, 0, 0, 0⟩] false)).push (.cells [.str (ByteArray.mk #[]), .int .i64 0, .ptr H.n 0] false)).n, 0), H1)
/- 15 (*congou/chest.Chest).At -/
def ret15 : Int → AV := fun r => .int .i64 r
noncomputable def r15 (a0b : Nat) (a0o : Nat) (H : Hp) : Option (Int × Hp) :=
  (r28 a0b a0o H).bind fun p1 =>
  if p1.1 = true then
    (some (0, p1.2))
  else
    ((p1.2.ldI .i64 a0b (a0o + 1)).bind fun x3 =>
    some (x3, p1.2))
/- 33 (*congou/chest.Chest).now -/
def ret33 : Nat × Nat → AV := fun r => .ptr r.1 r.2
noncomputable def r33 (a0b : Nat) (a0o : Nat) (H : Hp) : Option ((Nat × Nat) × Hp) :=
  (H.ldSl a0b (a0o + 0)).bind fun x1 =>
  (H.ldI .i64 a0b (a0o + 1)).bind fun x2 =>
  ck ((0 : Int) ≤ x2 ∧ x2 < (x1.len : Int)) (
  (H.ldP x1.b ((x1.o + (x2 : Int).toNat * 3) + 2)).bind fun x4 =>
  some ((x4.1, x4.2), H))
/- 152 internal/stringslite.IndexByte -/
def ret152 : Int → AV := fun r => .int .i64 r
noncomputable def r152 (a0 : ByteArray) (a1 : Int) (H : Hp) : Option (Int × Hp) :=
  some (strIdx a0 a1, H)
/- 154 internal/bytealg.Cutover -/
def ret154 : Int → AV := fun r => .int .i64 r
noncomputable def r154 (a0 : Int) (H : Hp) : Option (Int × Hp) :=
  some (w64 (Int.tdiv (w64 (a0 + 16)) 8), H)
/- 100 internal/stringslite.Index -/
def ret100 : Int → AV := fun r => .int .i64 r
noncomputable def r100_j0 (v1 : ByteArray) (v2 : ByteArray) (v3 : Int) (v4 : Bool) (H : Hp) : Option (Int × Hp) :=
  if v4 = true then
    (some (0, H))
  else
    (if v3 = 1 then
      (ck ((0 : Int) ≤ 0 ∧ 0 < (v2.size : Int)) (
      (r152 v1 (bt v2 0) H).bind fun p4 =>
      some (p4.1, p4.2)))
    else
      (if (v1.size : Int) ≤ v3 then
        (some ((-1), H))
      else
        (none)))
noncomputable def r100 (a0 : ByteArray) (a1 : ByteArray) (H : Hp) : Option (Int × Hp) :=
  if (a1.size : Int) = 0 then
    (r100_j0 a0 a1 (a1.size : Int) true H)
  else
    (r100_j0 a0 a1 (a1.size : Int) (strEq a1 a0) H)
/- 71 internal/stringslite.Cut -/
def ret71 : ByteArray × ByteArray × Bool → AV := fun r => .tup [.str r.1, .str r.2.1, .bool r.2.2]
noncomputable def r71 (a0 : ByteArray) (a1 : ByteArray) (H : Hp) : Option ((ByteArray × ByteArray × Bool) × Hp) :=
  (r100 a0 a1 H).bind fun p1 =>
  if 0 ≤ p1.1 then
    (ck ((0 : Int) ≤ 0 ∧ 0 ≤ p1.1 ∧ p1.1 ≤ (a0.size : Int)) (
    ck ((0 : Int) ≤ (w64 (p1.1 + (a1.size : Int))) ∧ (w64 (p1.1 + (a1.size : Int))) ≤ (a0.size : Int) ∧ (a0.size : Int) ≤ (a0.size : Int)) (
    some ((a0.extract (0 : Int).toNat (p1.1 : Int).toNat, a0.extract (w64 (p1.1 + (a1.size : Int)) : Int).toNat ((a0.size : Int) : Int).toNat, true), p1.2))))
  else
    (some ((a0, (ByteArray.mk #[]), false), p1.2))
/- 42 strings.Cut -/
def ret42 : ByteArray × ByteArray × Bool → AV := fun r => .tup [.str r.1, .str r.2.1, .bool r.2.2]
noncomputable def r42 (a0 : ByteArray) (a1 : ByteArray) (H : Hp) : Option ((ByteArray × ByteArray × Bool) × Hp) :=
  (r71 a0 a1 H).bind fun p1 =>
  some ((p1.1.1, p1.1.2.1, p1.1.2.2), p1.2)
/- 72 slices.Clone[[]congou/chest.leaf,congou/chest.leaf] -/
def ret72 : Sl → AV := fun r => .sl r
noncomputable def r72 (a0 : Sl) (H : Hp) : Option (Sl × Hp) :=
  if a0.nil = true then
    (some (⟨true, 0, 0, 0, 0, 0⟩, H))
  else
    (((H.push (.cells [] false)).lds a0.b a0.o (a0.len * 2)).bind fun x2 =>
    ck (x2.all AV.one = true) (
    ((H.push (.cells [] false)).app 2 ⟨false, H.n, 0, 0, 0, 0⟩ x2 a0.len).bind fun x4 =>
    some (x4.1, x4.2)))
/- 73 slices.Clone[[]int,int] -/
def ret73 : Sl → AV := fun r => .sl r
noncomputable def r73 (a0 : Sl) (H : Hp) : Option (Sl × Hp) :=
  if a0.nil = true then
    (some (⟨true, 0, 0, 0, 0, 0⟩, H))
  else
    (((H.push (.cells [] false)).lds a0.b a0.o (a0.len * 1)).bind fun x2 =>
    ck (x2.all AV.one = true) (
    ((H.push (.cells [] false)).app 1 ⟨false, H.n, 0, 0, 0, 0⟩ x2 a0.len).bind fun x4 =>
    some (x4.1, x4.2)))
/- 74 slices.Clone[[][2]int,[2]int] -/
def ret74 : Sl → AV := fun r => .sl r
noncomputable def r74 (a0 : Sl) (H : Hp) : Option (Sl × Hp) :=
  if a0.nil = true then
    (some (⟨true, 0, 0, 0, 0, 0⟩, H))
  else
    (((H.push (.cells [] false)).lds a0.b a0.o (a0.len * 2)).bind fun x2 =>
    ck (x2.all AV.one = true) (
    ((H.push (.cells [] false)).app 2 ⟨false, H.n, 0, 0, 0, 0⟩ x2 a0.len).bind fun x4 =>
    some (x4.1, x4.2)))
/- 43 (*congou/chest.state).clone -/
def ret43 : Nat × Nat → AV := fun r => .ptr r.1 r.2
noncomputable def r43 (a0b : Nat) (a0o : Nat) (H : Hp) : Option ((Nat × Nat) × Hp) :=
  (H.ldSl a0b (a0o + 0)).bind fun x1 =>
  (r72 x1 H).bind fun p2 =>
  (p2.2.ldSl a0b (a0o + 1)).bind fun x3 =>
  (r73 x3 p2.2).bind fun p4 =>
  (p4.2.ldI .i64 a0b (a0o + 2)).bind fun x5 =>
  (p4.2.ldI .i64 a0b ((a0o + 2) + 1)).bind fun x6 =>
  (p4.2.ldI .i64 a0b ((a0o + 2) + 2)).bind fun x7 =>
  (p4.2.ldI .i64 a0b ((a0o + 2) + 3)).bind fun x8 =>
  (p4.2.ldSl a0b (a0o + 6)).bind fun x9 =>
  (r74 x9 p4.2).bind fun p10 =>
  ck (H.ldSl a0b (a0o + 1) = some x3) (
  ck (H.ldI .i64 a0b (a0o + 2) = some x5) (
  ck (H.ldI .i64 a0b ((a0o + 2) + 1) = some x6) (
  ck (H.ldI .i64 a0b ((a0o + 2) + 2) = some x7) (
  ck (H.ldI .i64 a0b ((a0o + 2) + 3) = some x8) (
  ck (H.ldSl a0b (a0o + 6) = some x9) (
  ck (p2.2.ldI .i64 a0b (a0o + 2) = some x5) (
  ck (p2.2.ldI .i64 a0b ((a0o + 2) + 1) = some x6) (
  ck (p2.2.ldI .i64 a0b ((a0o + 2) + 2) = some x7) (
  ck (p2.2.ldI .i64 a0b ((a0o + 2) + 3) = some x8) (
  ck (p2.2.ldSl a0b (a0o + 6) = some x9) (
  ck (p4.2.ldSl a0b (a0o + 1) = some x3) (
  ck (p10.2.ldSl a0b (a0o + 1) = some x3) (
  ck (p10.2.ldI .i64 a0b (a0o + 2) = some x5) (
  ck (p10.2.ldI .i64 a0b ((a0o + 2) + 1) = some x6) (
  ck (p10.2.ldI .i64 a0b ((a0o + 2) + 2) = some x7) (
  ck (p10.2.ldI .i64 a0b ((a0o + 2) + 3) = some x8) (
  ck (p10.2.ldSl a0b (a0o + 6) = some x9) (
  some ((p10.2.n, 0), (p10.2.push (.cells [.sl p2.1, .sl p4.1, .int .i64 x5, .int .i64 x6, .int .i64 x7, .int .i64 x8, .sl p10.1] false)))))))))))))))))))))
/- 160 strings.Index -/
def ret160 : Int → AV := fun r => .int .i64 r
noncomputable def r160 (a0 : ByteArray) (a1 : ByteArray) (H : Hp) : Option (Int × Hp) :=
  (r100 a0 a1 H).bind fun p1 =>
  some (p1.1, p1.2)
/- 159 strings.Count -/
def ret159 : Int → AV := fun r => .int .i64 r
noncomputable def r159_l0 : Nat → ByteArray → ByteArray → Int → Hp → Option (Int × Hp)
  | 0, _, _, _, _ => none
  | k_ + 1, v1, v2, v3, H => (r160 v1 v2 H).bind fun p1 =>
  if p1.1 = (-1) then
    (some (v3, p1.2))
  else
    (ck ((0 : Int) ≤ (w64 (p1.1 + (v2.size : Int))) ∧ (w64 (p1.1 + (v2.size : Int))) ≤ (v1.size : Int) ∧ (v1.size : Int) ≤ (v1.size : Int)) (
    r159_l0 k_ (v1.extract (w64 (p1.1 + (v2.size : Int)) : Int).toNat ((v1.size : Int) : Int).toNat) v2 (w64 (v3 + 1)) p1.2))
noncomputable def r159 (a0 : ByteArray) (a1 : ByteArray) (H : Hp) : Option (Int × Hp) :=
  if (a1.size : Int) = 0 then
    (none)
  else
    (if (a1.size : Int) = 1 then
      (ck ((0 : Int) ≤ 0 ∧ 0 < (a1.size : Int)) (
      some (strCnt a0 (bt a1 0), H)))
    else
      (r159_l0 FUEL a0 a1 0 H))
/- 107 strings.genSplit -/
def ret107 : Sl → AV := fun r => .sl r
noncomputable def r107_j2 (v1 : ByteArray) (v2 : Sl) (v3 : Int) (H : Hp) : Option (Sl × Hp) :=
  ck ((0 : Int) ≤ v3 ∧ v3 < (v2.len : Int)) (
  (H.st v2.b (v2.o + (v3 : Int).toNat * 1) (.str v1)).bind fun H2 =>
  ck (((0 : Int) ≤ 0 ∧ 0 ≤ (w64 (v3 + 1)) ∧ (w64 (v3 + 1)) ≤ (v2.cap : Int)) ∧ (v2.opn = 0 ∨ v2.opn = 1)) (
  some (v2.cut 1 (0 : Int).toNat (w64 (v3 + 1) : Int).toNat, H2)))
noncomputable def r107_l0 : Nat → ByteArray → ByteArray → Int → Int → Sl → Int → Hp → Option (Sl × Hp)
  | 0, _, _, _, _, _, _, _ => none
  | k_ + 1, v1, v2, v3, v4, v5, v6, H => if v6 < v4 then
    ((r160 v1 v2 H).bind fun p2 =>
    if p2.1 < 0 then
      (r107_j2 v1 v5 v6 p2.2)
    else
      (ck ((0 : Int) ≤ 0 ∧ 0 ≤ (w64 (p2.1 + v3)) ∧ (w64 (p2.1 + v3)) ≤ (v1.size : Int)) (
      ck ((0 : Int) ≤ v6 ∧ v6 < (v5.len : Int)) (
      (p2.2.st v5.b (v5.o + (v6 : Int).toNat * 1) (.str (v1.extract (0 : Int).toNat (w64 (p2.1 + v3) : Int).toNat))).bind fun H6 =>
      ck ((0 : Int) ≤ (w64 (p2.1 + (v2.size : Int))) ∧ (w64 (p2.1 + (v2.size : Int))) ≤ (v1.size : Int) ∧ (v1.size : Int) ≤ (v1.size : Int)) (
      r107_l0 k_ (v1.extract (w64 (p2.1 + (v2.size : Int)) : Int).toNat ((v1.size : Int) : Int).toNat) v2 v3 v4 v5 (w64 (v6 + 1)) H6)))))
  else
    (r107_j2 v1 v5 v6 H)
noncomputable def r107_j1 (v1 : ByteArray) (v2 : ByteArray) (v3 : Int) (v4 : Int) (H : Hp) : Option (Sl × Hp) :=
  ck ((0 : Int) ≤ (if (w64 ((v1.size : Int) + 1)) < v4 then (w64 ((v1.size : Int) + 1)) else v4) ∧ (if (w64 ((v1.size : Int) + 1)) < v4 then (w64 ((v1.size : Int) + 1)) else v4) ≤ (if (w64 ((v1.size : Int) + 1)) < v4 then (w64 ((v1.size : Int) + 1)) else v4) ∧ (if (w64 ((v1.size : Int) + 1)) < v4 then (w64 ((v1.size : Int) + 1)) else v4) ≤ 4294967296) (
  lt (H.push (.cells (zerosA [.str (ByteArray.mk #[])] (((if (w64 ((v1.size : Int) + 1)) < v4 then (w64 ((v1.size : Int) + 1)) else v4) : Int).toNat * 1)) false)) fun H2 =>
  r107_l0 FUEL v1 v2 v3 (w64 ((if (w64 ((v1.size : Int) + 1)) < v4 then (w64 ((v1.size : Int) + 1)) else v4) - 1)) ⟨false, H.n, 0, ((if (w64 ((v1.size : Int) + 1)) < v4 then (w64 ((v1.size : Int) + 1)) else v4) : Int).toNat, ((if (w64 ((v1.size : Int) + 1)) < v4 then (w64 ((v1.size : Int) + 1)) else v4) : Int).toNat, 0⟩ 0 H2)
noncomputable def r107 (a0 : ByteArray) (a1 : ByteArray) (a2 : Int) (a3 : Int) (H : Hp) : Option (Sl × Hp) :=
  if a3 = 0 then
    (some (⟨true, 0, 0, 0, 0, 0⟩, H))
  else
    (if (strEq a1 (ByteArray.mk #[])) = true then
      (none)
    else
      (if a3 < 0 then
        ((r159 a0 a1 H).bind fun p4 =>
        r107_j1 a0 a1 a2 (w64 (p4.1 + 1)) p4.2)
      else
        (r107_j1 a0 a1 a2 a3 H)))
/- 79 strings.Split -/
def ret79 : Sl → AV := fun r => .sl r
noncomputable def r79 (a0 : ByteArray) (a1 : ByteArray) (H : Hp) : Option (Sl × Hp) :=
  (r107 a0 a1 0 (-1) H).bind fun p1 =>
  some (p1.1, p1.2)
/- 161 slices.Index[[]string,string] -/
def ret161 : Int → AV := fun r => .int .i64 r
noncomputable def r161_l0 : Nat → Sl → ByteArray → Int → Int → Hp → Option (Int × Hp)
  | 0, _, _, _, _, _ => none
  | k_ + 1, v1, v2, v3, v4, H => if v4 < v3 then
    (ck ((0 : Int) ≤ v4 ∧ v4 < (v1.len : Int)) (
    (H.ldStr v1.b (v1.o + (v4 : Int).toNat * 1)).bind fun x3 =>
    if (strEq v2 x3) = true then
      (some (v4, H))
    else
      (r161_l0 k_ v1 v2 v3 (w64 (v4 + 1)) H)))
  else
    (some ((-1), H))
noncomputable def r161 (a0 : Sl) (a1 : ByteArray) (H : Hp) : Option (Int × Hp) :=
  r161_l0 FUEL a0 a1 (a0.len : Int) 0 H
/- 108 slices.Contains[[]string,string] -/
def ret108 : Bool → AV := fun r => .bool r
noncomputable def r108 (a0 : Sl) (a1 : ByteArray) (H : Hp) : Option (Bool × Hp) :=
  (r161 a0 a1 H).bind fun p1 =>
  some ((decide (0 ≤ p1.1)), p1.2)
/- 162 slices.IndexFunc[[]byte,byte] -/
def ret162 : Int → AV := fun r => .int .i64 r
noncomputable def r162_l0 (app : App) : Nat → Sl → AV → Int → Int → Hp → Option (Int × Hp)
  | 0, _, _, _, _, _ => none
  | k_ + 1, v1, v2, v3, v4, H => if v4 < v3 then
    (ck ((0 : Int) ≤ v4 ∧ v4 < (v1.len : Int)) (
    (H.ldI .u8 v1.b (v1.o + (v4 : Int).toNat * 1)).bind fun x3 =>
    (callv app v2 [.int .u8 x3] H).bind fun p4 =>
    (p4.1.asB).bind fun x5 =>
    if x5 = true then
      (some (v4, p4.2))
    else
      (r162_l0 app k_ v1 v2 v3 (w64 (v4 + 1)) p4.2)))
  else
    (some ((-1), H))
noncomputable def r162 (app : App) (a0 : Sl) (a1 : AV) (H : Hp) : Option (Int × Hp) :=
  r162_l0 app FUEL a0 a1 (a0.len : Int) 0 H
/- 109 slices.ContainsFunc[[]byte,byte] -/
def ret109 : Bool → AV := fun r => .bool r
noncomputable def r109 (app : App) (a0 : Sl) (a1 : AV) (H : Hp) : Option (Bool × Hp) :=
  (r162 app a0 a1 H).bind fun p1 =>
  some ((decide (0 ≤ p1.1)), p1.2)
/- 110 congou/chest.isLine$1 -/
def ret110 : Bool → AV := fun r => .bool r
noncomputable def r110 (a0 : Int) (H : Hp) : Option (Bool × Hp) :=
  if a0 < 32 then
    (some (true, H))
  else
    (some ((decide (126 < a0)), H))
/- 80 congou/chest.isLine -/
def ret80 : Bool → AV := fun r => .bool r
noncomputable def r80 (app : App) (a0 : ByteArray) (H : Hp) : Option (Bool × Hp) :=
  if (a0.size : Int) ≤ 60 then
    ((r79 a0 (ByteArray.mk #[32]) H).bind fun p2 =>
    (r108 p2.1 (ByteArray.mk #[]) p2.2).bind fun p3 =>
    if p3.1 = true then
      (some (false, p3.2))
    else
      ((r109 app ⟨false, p3.2.n, 0, a0.size, a0.size, 1⟩ (.fn 110 [] []) (p3.2.push (.cells (bytesAV a0) false))).bind fun p5 =>
      some ((!p5.1), p5.2)))
  else
    (some (false, H))
/- 81 congou/chest.isName -/
def ret81 : Bool → AV := fun r => .bool r
noncomputable def r81_j1 (kt0 : ByteArray → Nat → Hp → Option (Bool × Hp)) (v1 : ByteArray) (v2 : Nat) (v3 : Bool) (H : Hp) : Option (Bool × Hp) :=
  if v3 = true then
    (some (false, H))
  else
    (kt0 v1 v2 H)
noncomputable def r81_l0 : Nat → ByteArray → Nat → Hp → Option (Bool × Hp)
  | 0, _, _, _ => none
  | k_ + 1, v1, v2, H => (H.nxt v2).bind fun x1 =>
  if x1.1.isSome = true then
    ((x1.1).bind fun x3 =>
    if x3.2 < 97 then
      (r81_j1 (fun v1_ v2_ H_ => r81_l0 k_ v1_ v2_ H_) v1 v2 true x1.2)
    else
      (r81_j1 (fun v1_ v2_ H_ => r81_l0 k_ v1_ v2_ H_) v1 v2 (decide (122 < x3.2)) x1.2))
  else
    (if (strEq v1 (ByteArray.mk #[])) = true then
      (some (false, x1.2))
    else
      (some ((decide ((v1.size : Int) ≤ 8)), x1.2)))
noncomputable def r81 (a0 : ByteArray) (H : Hp) : Option (Bool × Hp) :=
  lt (H.push (.iter a0 0)) fun H1 =>
  r81_l0 FUEL a0 H.n H1
/- 82 congou/chest.number -/
def ret82 : Int × Bool → AV := fun r => .tup [.int .i64 r.1, .bool r.2]
noncomputable def r82 (app : App) (a0 : ByteArray) (H : Hp) : Option ((Int × Bool) × Hp) :=
  (app 111 [.str a0] H).bind fun p1 =>
  (p1.1.asT).bind fun x2 =>
  ck (x2.length = 2) (
  (x2[0]?).bind fun x4 =>
  (x4.asI .i64).bind fun x5 =>
  (x2[1]?).bind fun x6 =>
  (AV.ifc x6).bind fun x7 =>
  if x7 = true then
    (some ((x5, false), p1.2))
  else
    (if 0 ≤ x5 then
      (if (a0.size : Int) ≤ 3 then
        ((app 53 [.int .i64 x5] p1.2).bind fun p11 =>
        (p11.1.asStr).bind fun x12 =>
        some ((x5, (strEq x12 a0)), p11.2))
      else
        (some ((x5, false), p1.2)))
    else
      (some ((x5, false), p1.2))))
/- 49 congou/chest.read -/
def ret49 : Sl × Sl × Bool → AV := fun r => .tup [.agg [.sl r.1, .sl r.2.1], .bool r.2.2]
noncomputable def r49_j2 (app : App) (kt1 : ByteArray → Nat → Sl → Int → Int → Hp → Option ((Sl × Sl × Bool) × Hp)) (v1 : ByteArray) (v2 : Nat) (v3 : Bool) (v4 : Sl) (v5 : Int) (v6 : Int) (H : Hp) : Option ((Sl × Sl × Bool) × Hp) :=
  if v3 = true then
    (kt1 v1 v2 v4 v5 (w64 (v6 + 1)) H)
  else
    ((H.sts v2 0 [.sl ⟨true, 0, 0, 0, 0, 0⟩, .sl ⟨true, 0, 0, 0, 0, 0⟩]).bind fun H2 =>
    (H2.ldSl v2 0).bind fun x3 =>
    (H2.ldSl v2 (0 + 1)).bind fun x4 =>
    some ((x3, x4, false), H2))
noncomputable def r49_l1 (app : App) : Nat → ByteArray → Nat → Sl → Int → Int → Hp → Option ((Sl × Sl × Bool) × Hp)
  | 0, _, _, _, _, _, _ => none
  | k_ + 1, v1, v2, v3, v4, v5, H => if v5 < v4 then
    (ck ((0 : Int) ≤ v5 ∧ v5 < (v3.len : Int)) (
    (H.ldStr v3.b (v3.o + (v5 : Int).toNat * 1)).bind fun x3 =>
    ck ((0 : Int) ≤ v5 ∧ v5 < (v1.size : Int)) (
    if (bt v1 v5) = 110 then
      ((H.ldSl v2 (0 + 0)).bind fun x6 =>
      (H.apN 1 x6 [.str x3] 1).bind fun x7 =>
      (x7.2.st v2 (0 + 0) (.sl x7.1)).bind fun H8 =>
      (r81 x3 H8).bind fun p9 =>
      r49_j2 app (fun v1_ v2_ v3_ v4_ v5_ H_ => r49_l1 app k_ v1_ v2_ v3_ v4_ v5_ H_) v1 v2 p9.1 v3 v4 v5 p9.2)
    else
      ((r82 app x3 H).bind fun p10 =>
      (p10.2.ldSl v2 (0 + 1)).bind fun x11 =>
      (p10.2.apN 1 x11 [.int .i64 p10.1.1] 1).bind fun x12 =>
      (x12.2.st v2 (0 + 1) (.sl x12.1)).bind fun H13 =>
      r49_j2 app (fun v1_ v2_ v3_ v4_ v5_ H_ => r49_l1 app k_ v1_ v2_ v3_ v4_ v5_ H_) v1 v2 p10.1.2 v3 v4 v5 H13))))
  else
    ((H.ldSl v2 0).bind fun x14 =>
    (H.ldSl v2 (0 + 1)).bind fun x15 =>
    (H.sts v2 0 [.sl x14, .sl x15]).bind fun H16 =>
    (H16.ldSl v2 0).bind fun x17 =>
    (H16.ldSl v2 (0 + 1)).bind fun x18 =>
    some ((x17, x18, true), H16))
noncomputable def r49_j0 (app : App) (v1 : ByteArray) (v2 : Nat) (v3 : Sl) (v4 : Bool) (H : Hp) : Option ((Sl × Sl × Bool) × Hp) :=
  if v4 = true then
    ((H.sts v2 0 [.sl ⟨true, 0, 0, 0, 0, 0⟩, .sl ⟨true, 0, 0, 0, 0, 0⟩]).bind fun H2 =>
    (H2.ldSl v2 0).bind fun x3 =>
    (H2.ldSl v2 (0 + 1)).bind fun x4 =>
    some ((x3, x4, false), H2))
  else
    (r49_l1 app FUEL v1 v2 v3 (v3.len : Int) 0 H)
noncomputable def r49 (app : App) (a0 : ByteArray) (a1 : ByteArray) (H : Hp) : Option ((Sl × Sl × Bool) × Hp) :=
  lt (H.push (.cells [.sl ⟨true, 0, 0, 0, 0, 0⟩, .sl ⟨true, 0, 0, 0, 0, 0⟩] false)) fun H1 =>
  (r79 a1 (ByteArray.mk #[32]) H1).bind fun p2 =>
  ck (((0 : Int) ≤ 1 ∧ 1 ≤ (p2.1.len : Int) ∧ (p2.1.len : Int) ≤ (p2.1.cap : Int)) ∧ (p2.1.opn = 0 ∨ p2.1.opn = 1)) (
  if ((p2.1.cut 1 (1 : Int).toNat ((p2.1.len : Int) : Int).toNat).len : Int) ≠ (a0.size : Int) then
    (r49_j0 app a0 H.n (p2.1.cut 1 (1 : Int).toNat ((p2.1.len : Int) : Int).toNat) true p2.2)
  else
    ((r80 app a1 p2.2).bind fun p5 =>
    r49_j0 app a0 H.n (p2.1.cut 1 (1 : Int).toNat ((p2.1.len : Int) : Int).toNat) (!p5.1) p5.2))
/- 34 (*congou/chest.state).do -/
def ret34 : Nat × Nat × ByteArray × Int → AV := fun r => .tup [.ptr r.1 r.2.1, .str r.2.2.1, .int .i64 r.2.2.2]
noncomputable def r34_j0 (app : App) (v1 : Nat) (v2 : Nat) (v3 : ByteArray) (v4 : ByteArray) (v5 : Nat) (v6 : Nat) (v7 : ByteArray) (v8 : AV) (H : Hp) : Option ((Nat × Nat × ByteArray × Int) × Hp) :=
  (r49 app v7 v3 H).bind fun p1 =>
  ((p1.2.push (.cells [.sl ⟨true, 0, 0, 0, 0, 0⟩, .sl ⟨true, 0, 0, 0, 0, 0⟩] false)).sts p1.2.n 0 [.sl p1.1.1, .sl p1.1.2.1]).bind fun H2 =>
  if p1.1.2.2 = true then
    ((H2.ldSl p1.2.n 0).bind fun x4 =>
    (H2.ldSl p1.2.n (0 + 1)).bind fun x5 =>
    (callv app v8 [.agg [.sl x4, .sl x5]] H2).bind fun p6 =>
    (p6.1.asI .i64).bind fun x7 =>
    if x7 ≠ 0 then
      (some ((v1, v2, (ByteArray.mk #[]), x7), p6.2))
    else
      (some ((v5, v6, v4, 0), p6.2)))
  else
    (some ((v1, v2, (ByteArray.mk #[]), 3), H2))
noncomputable def r34 (app : App) (a0b : Nat) (a0o : Nat) (a1 : ByteArray) (H : Hp) : Option ((Nat × Nat × ByteArray × Int) × Hp) :=
  (r42 a1 (ByteArray.mk #[32]) H).bind fun p1 =>
  (r43 a0b a0o p1.2).bind fun p2 =>
  if (strEq p1.1.1 (ByteArray.mk #[108, 101, 97, 102])) = true then
    (r34_j0 app a0b a0o a1 p1.1.1 p2.1.1 p2.1.2 (ByteArray.mk #[110, 100]) (.fn 44 [.ptr p2.1.1 p2.1.2] []) p2.2)
  else
    (if (strEq p1.1.1 (ByteArray.mk #[103, 105, 118, 101])) = true then
      (r34_j0 app a0b a0o a1 p1.1.1 p2.1.1 p2.1.2 (ByteArray.mk #[110, 110, 100]) (.fn 45 [.ptr p2.1.1 p2.1.2] []) p2.2)
    else
      (if (strEq p1.1.1 (ByteArray.mk #[111, 114, 100, 101, 114])) = true then
        (r34_j0 app a0b a0o a1 p1.1.1 p2.1.1 p2.1.2 (ByteArray.mk #[110]) (.fn 46 [.ptr p2.1.1 p2.1.2] []) p2.2)
      else
        (if (strEq p1.1.1 (ByteArray.mk #[116, 97, 115, 116, 101])) = true then
          (r34_j0 app a0b a0o a1 p1.1.1 p2.1.1 p2.1.2 (ByteArray.mk #[100, 100]) (.fn 47 [.ptr p2.1.1 p2.1.2] []) p2.2)
        else
          (if (strEq p1.1.1 (ByteArray.mk #[111, 102, 102, 101, 114])) = true then
            (r34_j0 app a0b a0o a1 p1.1.1 p2.1.1 p2.1.2 (ByteArray.mk #[100, 100]) (.fn 48 [.ptr p2.1.1 p2.1.2] []) p2.2)
          else
            (some ((a0b, a0o, (ByteArray.mk #[]), 3), p2.2))))))
/- 50 slices.IndexFunc[[]congou/chest.page,congou/chest.page] -/
def ret50 : Int → AV := fun r => .int .i64 r
noncomputable def r50_l0 (app : App) : Nat → Sl → AV → Int → Int → Hp → Option (Int × Hp)
  | 0, _, _, _, _, _ => none
  | k_ + 1, v1, v2, v3, v4, H => if v4 < v3 then
    (ck ((0 : Int) ≤ v4 ∧ v4 < (v1.len : Int)) (
    (H.ldStr v1.b (v1.o + (v4 : Int).toNat * 3)).bind fun x3 =>
    (H.ldI .i64 v1.b ((v1.o + (v4 : Int).toNat * 3) + 1)).bind fun x4 =>
    (H.ldP v1.b ((v1.o + (v4 : Int).toNat * 3) + 2)).bind fun x5 =>
    (callv app v2 [.agg [.str x3, .int .i64 x4, .ptr x5.1 x5.2]] H).bind fun p6 =>
    (p6.1.asB).bind fun x7 =>
    if x7 = true then
      (some (v4, p6.2))
    else
      (r50_l0 app k_ v1 v2 v3 (w64 (v4 + 1)) p6.2)))
  else
    (some ((-1), H))
noncomputable def r50 (app : App) (a0 : Sl) (a1 : AV) (H : Hp) : Option (Int × Hp) :=
  r50_l0 app FUEL a0 a1 (a0.len : Int) 0 H
/- 35 (*congou/chest.Chest).child -/
def ret35 : Int → AV := fun r => .int .i64 r
noncomputable def r35 (app : App) (a0b : Nat) (a0o : Nat) (a1 : Int) (a2 : ByteArray) (H : Hp) : Option (Int × Hp) :=
  lt ((H.push (.cells [.int .i64 a1] false)).push (.cells [.str a2] false)) fun H1 =>
  (H1.ldSl a0b (a0o + 0)).bind fun x2 =>
  (r50 app x2 (.fn 51 [] [.ptr ((H.push (.cells [.int .i64 a1] false)).n) 0, .ptr H.n 0]) H1).bind fun p3 =>
  some (p3.1, p3.2)
/- 18 (*congou/chest.Chest).Do -/
def ret18 : ByteArray × Int → AV := fun r => .tup [.str r.1, .int .i64 r.2]
noncomputable def r18_j0 (app : App) (v1 : Nat) (v2 : Nat) (v3 : ByteArray) (v4 : Int) (H : Hp) : Option ((ByteArray × Int) × Hp) :=
  (H.st v1 (v2 + 1) (.int .i64 v4)).bind fun H1 =>
  some ((v3, 0), H1)
noncomputable def r18 (app : App) (a0b : Nat) (a0o : Nat) (a1 : ByteArray) (H : Hp) : Option ((ByteArray × Int) × Hp) :=
  (r28 a0b a0o H).bind fun p1 =>
  if p1.1 = true then
    (some (((ByteArray.mk #[]), 1), p1.2))
  else
    ((r33 a0b a0o p1.2).bind fun p3 =>
    (r34 app p3.1.1 p3.1.2 a1 p3.2).bind fun p4 =>
    if p4.1.2.2.2 ≠ 0 then
      (some (((ByteArray.mk #[]), p4.1.2.2.2), p4.2))
    else
      ((p4.2.ldI .i64 a0b (a0o + 1)).bind fun x6 =>
      (r35 app a0b a0o x6 a1 p4.2).bind fun p7 =>
      if 0 ≤ p7.1 then
        (r18_j0 app a0b a0o p4.1.2.2.1 p7.1 p7.2)
      else
        ((p7.2.ldSl a0b (a0o + 0)).bind fun x9 =>
        if (x9.len : Int) = 200 then
          (some (((ByteArray.mk #[]), 7), p7.2))
        else
          ((p7.2.ldSl a0b (a0o + 0)).bind fun x11 =>
          (p7.2.ldSl a0b (a0o + 0)).bind fun x12 =>
          (p7.2.ldI .i64 a0b (a0o + 1)).bind fun x13 =>
          (p7.2.apN 3 x12 [.str a1, .int .i64 x13, .ptr p4.1.1 p4.1.2.1] 1).bind fun x14 =>
          (x14.2.st a0b (a0o + 0) (.sl x14.1)).bind fun H15 =>
          ck ((p7.2.push (.cells [.str a1, .int .i64 x13, .ptr p4.1.1 p4.1.2.1] false)).ldSl a0b (a0o + 0) = some x12) (
          r18_j0 app a0b a0o p4.1.2.2.1 (x11.len : Int) H15)))))
/- 39 (*congou/chest.state).ask -/
def ret39 : ByteArray × Int → AV := fun r => .tup [.str r.1, .int .i64 r.2]
noncomputable def r39_j0 (app : App) (v1 : ByteArray) (v2 : ByteArray) (v3 : ByteArray) (v4 : AV) (H : Hp) : Option ((ByteArray × Int) × Hp) :=
  (r49 app v3 v1 H).bind fun p1 =>
  ((p1.2.push (.cells [.sl ⟨true, 0, 0, 0, 0, 0⟩, .sl ⟨true, 0, 0, 0, 0, 0⟩] false)).sts p1.2.n 0 [.sl p1.1.1, .sl p1.1.2.1]).bind fun H2 =>
  if p1.1.2.2 = true then
    ((H2.ldSl p1.2.n 0).bind fun x4 =>
    (H2.ldSl p1.2.n (0 + 1)).bind fun x5 =>
    (callv app v4 [.agg [.sl x4, .sl x5]] H2).bind fun p6 =>
    (p6.1.asT).bind fun x7 =>
    ck (x7.length = 2) (
    (x7[0]?).bind fun x9 =>
    (x9.asSl).bind fun x10 =>
    (x7[1]?).bind fun x11 =>
    (x11.asI .i64).bind fun x12 =>
    if x12 ≠ 0 then
      (some (((ByteArray.mk #[]), x12), p6.2))
    else
      (((p6.2.push (.cells [.str v2] false)).lds x10.b x10.o (x10.len * 1)).bind fun x14 =>
      ck (x14.all AV.one = true) (
      ((p6.2.push (.cells [.str v2] false)).app 1 ⟨false, p6.2.n, 0, 1, 1, 0⟩ x14 x10.len).bind fun x16 =>
      (app 55 [.sl x16.1, .str (ByteArray.mk #[32])] x16.2).bind fun p17 =>
      (p17.1.asStr).bind fun x18 =>
      some ((x18, 0), p17.2)))))
  else
    (some (((ByteArray.mk #[]), 3), H2))
noncomputable def r39 (app : App) (a0b : Nat) (a0o : Nat) (a1 : ByteArray) (H : Hp) : Option ((ByteArray × Int) × Hp) :=
  (r42 a1 (ByteArray.mk #[32]) H).bind fun p1 =>
  if (strEq p1.1.1 (ByteArray.mk #[103, 97, 112])) = true then
    (r39_j0 app a1 p1.1.1 (ByteArray.mk #[]) (.fn 60 [.ptr a0b a0o] []) p1.2)
  else
    (if (strEq p1.1.1 (ByteArray.mk #[104, 101, 97, 118, 121])) = true then
      (r39_j0 app a1 p1.1.1 (ByteArray.mk #[100]) (.fn 61 [.ptr a0b a0o] []) p1.2)
    else
      (if (strEq p1.1.1 (ByteArray.mk #[111, 102, 116, 101, 110])) = true then
        (r39_j0 app a1 p1.1.1 (ByteArray.mk #[110]) (.fn 62 [.ptr a0b a0o] []) p1.2)
      else
        (if (strEq p1.1.1 (ByteArray.mk #[116, 97, 105, 108])) = true then
          (r39_j0 app a1 p1.1.1 (ByteArray.mk #[]) (.fn 63 [.ptr a0b a0o] []) p1.2)
        else
          (if (strEq p1.1.1 (ByteArray.mk #[102, 97, 105, 114])) = true then
            (r39_j0 app a1 p1.1.1 (ByteArray.mk #[100, 100]) (.fn 64 [.ptr a0b a0o] []) p1.2)
          else
            (if (strEq p1.1.1 (ByteArray.mk #[114, 111, 117, 110, 100])) = true then
              (r39_j0 app a1 p1.1.1 (ByteArray.mk #[100]) (.fn 65 [] []) p1.2)
            else
              (if (strEq p1.1.1 (ByteArray.mk #[99, 117, 114, 118, 101])) = true then
                (r39_j0 app a1 p1.1.1 (ByteArray.mk #[100]) (.fn 66 [] []) p1.2)
              else
                (if (strEq p1.1.1 (ByteArray.mk #[115, 113, 117, 97, 114, 101])) = true then
                  (r39_j0 app a1 p1.1.1 (ByteArray.mk #[100, 100, 100, 100]) (.fn 67 [] []) p1.2)
                else
                  (if (strEq p1.1.1 (ByteArray.mk #[114, 111, 119])) = true then
                    (r39_j0 app a1 p1.1.1 (ByteArray.mk #[100, 100]) (.fn 68 [] []) p1.2)
                  else
                    (if (strEq p1.1.1 (ByteArray.mk #[108, 101, 97, 115, 116])) = true then
                      (r39_j0 app a1 p1.1.1 (ByteArray.mk #[100]) (.fn 69 [] []) p1.2)
                    else
                      (some (((ByteArray.mk #[]), 3), p1.2)))))))))))
/- 27 (*congou/chest.Chest).Ask -/
def ret27 : ByteArray × Int → AV := fun r => .tup [.str r.1, .int .i64 r.2]
noncomputable def r27 (app : App) (a0b : Nat) (a0o : Nat) (a1 : ByteArray) (H : Hp) : Option ((ByteArray × Int) × Hp) :=
  (r28 a0b a0o H).bind fun p1 =>
  if p1.1 = true then
    (some (((ByteArray.mk #[]), 1), p1.2))
  else
    ((r33 a0b a0o p1.2).bind fun p3 =>
    (r39 app p3.1.1 p3.1.2 a1 p3.2).bind fun p4 =>
    some ((p4.1.1, p4.1.2), p4.2))
/- 13 congou/congoulaw10.awake -/
def ret13 : Bool → AV := fun r => .bool r
noncomputable def r13 (app : App) (H : Hp) : Option (Bool × Hp) :=
  (r14 H).bind fun p1 =>
  (r18 app p1.1.1 p1.1.2 (ByteArray.mk #[108, 101, 97, 102, 32, 97, 109, 97, 32, 51]) p1.2).bind fun p2 =>
  (r27 app p1.1.1 p1.1.2 (ByteArray.mk #[103, 97, 112]) p2.2).bind fun p3 =>
  if p2.1.2 = 0 then
    (if p3.1.2 = 0 then
      (if (strEq p2.1.1 (ByteArray.mk #[108, 101, 97, 102])) = true then
        (if (strEq p3.1.1 (ByteArray.mk #[103, 97, 112, 32, 48])) = true then
          ((r15 p1.1.1 p1.1.2 p3.2).bind fun p8 =>
          some ((decide (p8.1 = 1)), p8.2))
        else
          (some (false, p3.2)))
      else
        (some (false, p3.2)))
    else
      (some (false, p3.2)))
  else
    (some (false, p3.2))
/- 31 slices.Reverse[[]int,int] -/
def ret31 : Unit → AV := fun _ => .tup []
noncomputable def r31_l0 : Nat → Sl → Int → Int → Hp → Option (Unit × Hp)
  | 0, _, _, _, _ => none
  | k_ + 1, v1, v2, v3, H => if v2 < v3 then
    (ck ((0 : Int) ≤ v3 ∧ v3 < (v1.len : Int)) (
    (H.ldI .i64 v1.b (v1.o + (v3 : Int).toNat * 1)).bind fun x3 =>
    ck ((0 : Int) ≤ v2 ∧ v2 < (v1.len : Int)) (
    (H.ldI .i64 v1.b (v1.o + (v2 : Int).toNat * 1)).bind fun x5 =>
    ck ((0 : Int) ≤ v2 ∧ v2 < (v1.len : Int)) (
    (H.st v1.b (v1.o + (v2 : Int).toNat * 1) (.int .i64 x3)).bind fun H7 =>
    ck ((0 : Int) ≤ v3 ∧ v3 < (v1.len : Int)) (
    (H7.st v1.b (v1.o + (v3 : Int).toNat * 1) (.int .i64 x5)).bind fun H9 =>
    r31_l0 k_ v1 (w64 (v2 + 1)) (w64 (v3 - 1)) H9)))))
  else
    (some ((), H))
noncomputable def r31 (a0 : Sl) (H : Hp) : Option (Unit × Hp) :=
  r31_l0 FUEL a0 0 (w64 ((a0.len : Int) - 1)) H
/- 32 (*congou/chest.Chest).way -/
def ret32 : Sl → AV := fun r => .sl r
noncomputable def r32_l0 : Nat → Nat → Nat → Sl → Int → Hp → Option (Sl × Hp)
  | 0, _, _, _, _, _ => none
  | k_ + 1, v1, v2, v3, v4, H => if v4 ≠ 0 then
    ((H.apN 1 v3 [.int .i64 v4] 1).bind fun x2 =>
    (x2.2.ldSl v1 (v2 + 0)).bind fun x3 =>
    ck ((0 : Int) ≤ v4 ∧ v4 < (x3.len : Int)) (
    (x2.2.ldI .i64 x3.b ((x3.o + (v4 : Int).toNat * 3) + 1)).bind fun x5 =>
    r32_l0 k_ v1 v2 x2.1 x5 x2.2))
  else
    ((r31 v3 H).bind fun p6 =>
    some (v3, p6.2))
noncomputable def r32 (a0b : Nat) (a0o : Nat) (a1 : Int) (H : Hp) : Option (Sl × Hp) :=
  r32_l0 FUEL a0b a0o ⟨true, 0, 0, 0, 0, 0⟩ a1 H
/- 16 (*congou/chest.Chest).Path -/
def ret16 : Sl → AV := fun r => .sl r
noncomputable def r16_l0 : Nat → Nat → Nat → Sl → Sl → Int → Int → Hp → Option (Sl × Hp)
  | 0, _, _, _, _, _, _, _ => none
  | k_ + 1, v1, v2, v3, v4, v5, v6, H => if v6 < v5 then
    (ck ((0 : Int) ≤ v6 ∧ v6 < (v4.len : Int)) (
    (H.ldI .i64 v4.b (v4.o + (v6 : Int).toNat * 1)).bind fun x3 =>
    (H.ldSl v1 (v2 + 0)).bind fun x4 =>
    ck ((0 : Int) ≤ x3 ∧ x3 < (x4.len : Int)) (
    (H.ldStr x4.b ((x4.o + (x3 : Int).toNat * 3) + 0)).bind fun x6 =>
    (H.apN 1 v3 [.str x6] 1).bind fun x7 =>
    r16_l0 k_ v1 v2 x7.1 v4 v5 (w64 (v6 + 1)) x7.2)))
  else
    (some (v3, H))
noncomputable def r16 (a0b : Nat) (a0o : Nat) (H : Hp) : Option (Sl × Hp) :=
  (r28 a0b a0o H).bind fun p1 =>
  if p1.1 = true then
    (some (⟨true, 0, 0, 0, 0, 0⟩, p1.2))
  else
    ((p1.2.ldI .i64 a0b (a0o + 1)).bind fun x3 =>
    (r32 a0b a0o x3 p1.2).bind fun p4 =>
    r16_l0 FUEL a0b a0o ⟨true, 0, 0, 0, 0, 0⟩ p4.1 (p4.1.len : Int) 0 p4.2)
/- 17 (*congou/chest.Chest).Bytes -/
def ret17 : Sl → AV := fun r => .sl r
noncomputable def r17_l0 : Nat → Sl → Sl → Int → Int → Hp → Option (Sl × Hp)
  | 0, _, _, _, _, _ => none
  | k_ + 1, v1, v2, v3, v4, H => if v4 < v3 then
    (ck ((0 : Int) ≤ v4 ∧ v4 < (v2.len : Int)) (
    (H.ldStr v2.b (v2.o + (v4 : Int).toNat * 3)).bind fun x3 =>
    (H.ldI .i64 v2.b ((v2.o + (v4 : Int).toNat * 3) + 1)).bind fun x4 =>
    (H.ldP v2.b ((v2.o + (v4 : Int).toNat * 3) + 2)).bind fun x5 =>
    ((H.push (.cells [.str (ByteArray.mk #[]), .int .i64 0, .nilptr] false)).sts H.n 0 [.str x3, .int .i64 x4, .ptr x5.1 x5.2]).bind fun H6 =>
    (H6.ldI .i64 H.n (0 + 1)).bind fun x7 =>
    (H6.ldStr H.n (0 + 0)).bind fun x8 =>
    (H6.apN 1 v1 [.int .u8 (IntKind.wrap .u8 (x7)), .int .u8 (IntKind.wrap .u8 ((x8.size : Int)))] 2).bind fun x9 =>
    (x9.2.ldStr H.n (0 + 0)).bind fun x10 =>
    (x9.2.app 1 x9.1 (bytesAV x10) x10.size).bind fun x11 =>
    r17_l0 k_ x11.1 v2 v3 (w64 (v4 + 1)) x11.2))
  else
    (some (v1, H))
noncomputable def r17 (a0b : Nat) (a0o : Nat) (H : Hp) : Option (Sl × Hp) :=
  (r28 a0b a0o H).bind fun p1 =>
  if p1.1 = true then
    (some (⟨true, 0, 0, 0, 0, 0⟩, p1.2))
  else
    ((p1.2.ldSl a0b (a0o + 0)).bind fun x3 =>
    ck (((0 : Int) ≤ 1 ∧ 1 ≤ (x3.len : Int) ∧ (x3.len : Int) ≤ (x3.cap : Int)) ∧ (x3.opn = 0 ∨ x3.opn = 3)) (
    r17_l0 FUEL ⟨true, 0, 0, 0, 0, 0⟩ (x3.cut 3 (1 : Int).toNat ((x3.len : Int) : Int).toNat) ((x3.cut 3 (1 : Int).toNat ((x3.len : Int) : Int).toNat).len : Int) 0 p1.2))
/- 19 (*congou/chest.Chest).Back -/
def ret19 : Int → AV := fun r => .int .i64 r
noncomputable def r19_l0 : Nat → Nat → Nat → Int → Int → Hp → Option (Int × Hp)
  | 0, _, _, _, _, _ => none
  | k_ + 1, v1, v2, v3, v4, H => if v4 < v3 then
    ((H.ldSl v1 (v2 + 0)).bind fun x2 =>
    (H.ldI .i64 v1 (v2 + 1)).bind fun x3 =>
    ck ((0 : Int) ≤ x3 ∧ x3 < (x2.len : Int)) (
    (H.ldI .i64 x2.b ((x2.o + (x3 : Int).toNat * 3) + 1)).bind fun x5 =>
    (H.st v1 (v2 + 1) (.int .i64 x5)).bind fun H6 =>
    r19_l0 k_ v1 v2 v3 (w64 (v4 + 1)) H6))
  else
    (some (0, H))
noncomputable def r19 (a0b : Nat) (a0o : Nat) (a1 : Int) (H : Hp) : Option (Int × Hp) :=
  (r28 a0b a0o H).bind fun p1 =>
  if p1.1 = true then
    (some (1, p1.2))
  else
    (if a1 < 0 then
      (some (2, p1.2))
    else
      ((p1.2.ldI .i64 a0b (a0o + 1)).bind fun x4 =>
      (r32 a0b a0o x4 p1.2).bind fun p5 =>
      if (p5.1.len : Int) < a1 then
        (some (4, p5.2))
      else
        (r19_l0 FUEL a0b a0o a1 0 p5.2)))
/- 36 bytes.Equal -/
def ret36 : Bool → AV := fun r => .bool r
noncomputable def r36 (a0 : Sl) (a1 : Sl) (H : Hp) : Option (Bool × Hp) :=
  (H.lds a0.b a0.o a0.len).bind fun x1 =>
  (bInts x1).bind fun x2 =>
  (H.lds a1.b a1.o a1.len).bind fun x3 =>
  (bInts x3).bind fun x4 =>
  some ((strEq (strOfNums x2) (strOfNums x4)), H)
/- 20 bytes.HasPrefix -/
def ret20 : Bool → AV := fun r => .bool r
noncomputable def r20 (a0 : Sl) (a1 : Sl) (H : Hp) : Option (Bool × Hp) :=
  if (a1.len : Int) ≤ (a0.len : Int) then
    (ck (((0 : Int) ≤ 0 ∧ 0 ≤ (a1.len : Int) ∧ (a1.len : Int) ≤ (a0.cap : Int)) ∧ (a0.opn = 0 ∨ a0.opn = 1)) (
    (r36 (a0.cut 1 (0 : Int).toNat ((a1.len : Int) : Int).toNat) a1 H).bind fun p3 =>
    some (p3.1, p3.2)))
  else
    (some (false, H))
/- 21 slices.Equal[[]string,string] -/
def ret21 : Bool → AV := fun r => .bool r
noncomputable def r21_l0 : Nat → Sl → Sl → Int → Int → Hp → Option (Bool × Hp)
  | 0, _, _, _, _, _ => none
  | k_ + 1, v1, v2, v3, v4, H => if v4 < v3 then
    (ck ((0 : Int) ≤ v4 ∧ v4 < (v1.len : Int)) (
    (H.ldStr v1.b (v1.o + (v4 : Int).toNat * 1)).bind fun x3 =>
    ck ((0 : Int) ≤ v4 ∧ v4 < (v2.len : Int)) (
    (H.ldStr v2.b (v2.o + (v4 : Int).toNat * 1)).bind fun x5 =>
    if (strEq x3 x5) = true then
      (r21_l0 k_ v1 v2 v3 (w64 (v4 + 1)) H)
    else
      (some (false, H)))))
  else
    (some (true, H))
noncomputable def r21 (a0 : Sl) (a1 : Sl) (H : Hp) : Option (Bool × Hp) :=
  if (a0.len : Int) ≠ (a1.len : Int) then
    (some (false, H))
  else
    (r21_l0 FUEL a0 a1 (a0.len : Int) 0 H)
/- 22 (*congou/chest.Chest).Children -/
def ret22 : Sl → AV := fun r => .sl r
noncomputable def r22_j1 (kt0 : Nat → Nat → Sl → Sl → Int → Int → Hp → Option (Sl × Hp)) (v1 : Nat) (v2 : Nat) (v3 : Sl) (v4 : Int) (v5 : Sl) (v6 : Int) (v7 : Int) (v8 : Bool) (H : Hp) : Option (Sl × Hp) :=
  if v8 = true then
    ((H.apN 1 v3 [.int .i64 v4] 1).bind fun x2 =>
    kt0 v1 v2 x2.1 v5 v6 (w64 (v7 + 1)) x2.2)
  else
    (kt0 v1 v2 v3 v5 v6 (w64 (v7 + 1)) H)
noncomputable def r22_l0 : Nat → Nat → Nat → Sl → Sl → Int → Int → Hp → Option (Sl × Hp)
  | 0, _, _, _, _, _, _, _ => none
  | k_ + 1, v1, v2, v3, v4, v5, v6, H => if v6 < v5 then
    (ck ((0 : Int) ≤ v6 ∧ v6 < (v4.len : Int)) (
    (H.ldStr v4.b (v4.o + (v6 : Int).toNat * 3)).bind fun x3 =>
    (H.ldI .i64 v4.b ((v4.o + (v6 : Int).toNat * 3) + 1)).bind fun x4 =>
    (H.ldP v4.b ((v4.o + (v6 : Int).toNat * 3) + 2)).bind fun x5 =>
    ((H.push (.cells [.str (ByteArray.mk #[]), .int .i64 0, .nilptr] false)).sts H.n 0 [.str x3, .int .i64 x4, .ptr x5.1 x5.2]).bind fun H6 =>
    if 0 < v6 then
      ((H6.ldI .i64 H.n (0 + 1)).bind fun x8 =>
      (H6.ldI .i64 v1 (v2 + 1)).bind fun x9 =>
      r22_j1 (fun v1_ v2_ v3_ v4_ v5_ v6_ H_ => r22_l0 k_ v1_ v2_ v3_ v4_ v5_ v6_ H_) v1 v2 v3 v6 v4 v5 v6 (decide (x8 = x9)) H6)
    else
      (r22_j1 (fun v1_ v2_ v3_ v4_ v5_ v6_ H_ => r22_l0 k_ v1_ v2_ v3_ v4_ v5_ v6_ H_) v1 v2 v3 v6 v4 v5 v6 false H6)))
  else
    (some (v3, H))
noncomputable def r22 (a0b : Nat) (a0o : Nat) (H : Hp) : Option (Sl × Hp) :=
  (r28 a0b a0o H).bind fun p1 =>
  if p1.1 = true then
    (some (⟨true, 0, 0, 0, 0, 0⟩, p1.2))
  else
    ((p1.2.ldSl a0b (a0o + 0)).bind fun x3 =>
    r22_l0 FUEL a0b a0o ⟨true, 0, 0, 0, 0, 0⟩ x3 (x3.len : Int) 0 p1.2)
/- 37 slices.Index[[]int,int] -/
def ret37 : Int → AV := fun r => .int .i64 r
noncomputable def r37_l0 : Nat → Sl → Int → Int → Int → Hp → Option (Int × Hp)
  | 0, _, _, _, _, _ => none
  | k_ + 1, v1, v2, v3, v4, H => if v4 < v3 then
    (ck ((0 : Int) ≤ v4 ∧ v4 < (v1.len : Int)) (
    (H.ldI .i64 v1.b (v1.o + (v4 : Int).toNat * 1)).bind fun x3 =>
    if v2 = x3 then
      (some (v4, H))
    else
      (r37_l0 k_ v1 v2 v3 (w64 (v4 + 1)) H)))
  else
    (some ((-1), H))
noncomputable def r37 (a0 : Sl) (a1 : Int) (H : Hp) : Option (Int × Hp) :=
  r37_l0 FUEL a0 a1 (a0.len : Int) 0 H
/- 23 slices.Contains[[]int,int] -/
def ret23 : Bool → AV := fun r => .bool r
noncomputable def r23 (a0 : Sl) (a1 : Int) (H : Hp) : Option (Bool × Hp) :=
  (r37 a0 a1 H).bind fun p1 =>
  some ((decide (0 ≤ p1.1)), p1.2)
/- 4 congou/congoulaw10.ChestPages -/
def ret4 : Bool → AV := fun r => .bool r
noncomputable def r4_j2 (app : App) (kt0 : Nat → Nat → Int → Sl → Int → Int → Hp → Option (Bool × Hp)) (v1 : Nat) (v2 : Nat) (v3 : Int) (v4 : Sl) (v5 : Int) (v6 : Int) (v7 : Bool) (H : Hp) : Option (Bool × Hp) :=
  if v7 = true then
    (some (false, H))
  else
    (kt0 v1 v2 v3 v4 v5 (w64 (v6 + 1)) H)
noncomputable def r4_j7 (app : App) (kt0 : Nat → Nat → Int → Sl → Int → Int → Hp → Option (Bool × Hp)) (v1 : Nat) (v2 : Nat) (v3 : Int) (v4 : Int) (v5 : Sl) (v6 : Int) (v7 : Sl) (v8 : Int) (v9 : Int) (H : Hp) : Option (Bool × Hp) :=
  if v6 ≠ 0 then
    ((r15 v1 v2 H).bind fun p2 =>
    if p2.1 ≠ v4 then
      (r4_j2 app kt0 v1 v2 v3 v7 v8 v9 true p2.2)
    else
      ((r17 v1 v2 p2.2).bind fun p4 =>
      r4_j2 app kt0 v1 v2 v3 v7 v8 v9 (decide ((p4.1.len : Int) ≠ (v5.len : Int))) p4.2))
  else
    (r4_j2 app kt0 v1 v2 v3 v7 v8 v9 false H)
noncomputable def r4_j1 (app : App) (kt0 : Nat → Nat → Int → Sl → Int → Int → Hp → Option (Bool × Hp)) (v1 : Nat) (v2 : Nat) (v3 : Int) (v4 : Int) (v5 : Sl) (v6 : Int) (v7 : Sl) (v8 : Int) (v9 : Int) (v10 : Bool) (H : Hp) : Option (Bool × Hp) :=
  if v10 = true then
    (some (false, H))
  else
    ((r15 v1 v2 H).bind fun p2 =>
    r4_j7 app kt0 v1 v2 (if v3 < (w64 (p2.1 + 1)) then (w64 (p2.1 + 1)) else v3) v4 v5 v6 v7 v8 v9 p2.2)
noncomputable def r4_j3 (app : App) (kt0 : Nat → Nat → Int → Sl → Int → Int → Hp → Option (Bool × Hp)) (v1 : Nat) (v2 : Nat) (v3 : Int) (v4 : Nat) (v5 : Int) (v6 : Sl) (v7 : Sl) (v8 : Int) (v9 : Sl) (v10 : Int) (v11 : Int) (v12 : Bool) (H : Hp) : Option (Bool × Hp) :=
  if v12 = true then
    ((r15 v1 v2 H).bind fun p2 =>
    if p2.1 ≤ v5 then
      (r4_j1 app kt0 v1 v2 v3 v5 v7 v8 v9 v10 v11 true p2.2)
    else
      ((r15 v1 v2 p2.2).bind fun p4 =>
      if v3 < p4.1 then
        (r4_j1 app kt0 v1 v2 v3 v5 v7 v8 v9 v10 v11 true p4.2)
      else
        ((r17 v1 v2 p4.2).bind fun p6 =>
        (p6.2.ldStr v4 (0 + 3)).bind fun x7 =>
        if (w64 ((w64 ((v7.len : Int) + 2)) + (x7.size : Int))) < (p6.1.len : Int) then
          (ck (H.ldStr v4 (0 + 3) = some x7) (
          ck (p2.2.ldStr v4 (0 + 3) = some x7) (
          ck (p4.2.ldStr v4 (0 + 3) = some x7) (
          r4_j1 app kt0 v1 v2 v3 v5 v7 v8 v9 v10 v11 true p6.2))))
        else
          ((r16 v1 v2 p6.2).bind fun p12 =>
          (p12.2.ldStr v4 (0 + 3)).bind fun x13 =>
          (p12.2.apN 1 v6 [.str x13] 1).bind fun x14 =>
          (r21 p12.1 x14.1 x14.2).bind fun p15 =>
          ck (H.ldStr v4 (0 + 3) = some x7) (
          ck (H.ldStr v4 (0 + 3) = some x13) (
          ck (p2.2.ldStr v4 (0 + 3) = some x7) (
          ck (p2.2.ldStr v4 (0 + 3) = some x13) (
          ck (p4.2.ldStr v4 (0 + 3) = some x7) (
          ck (p4.2.ldStr v4 (0 + 3) = some x13) (
          ck (p6.2.ldStr v4 (0 + 3) = some x13) (
          ck (p12.2.ldStr v4 (0 + 3) = some x7) (
          r4_j1 app kt0 v1 v2 v3 v5 v7 v8 v9 v10 v11 (!p15.1) p15.2))))))))))))
  else
    (r4_j7 app kt0 v1 v2 v3 v5 v7 v8 v9 v10 v11 H)
noncomputable def r4_j4 (app : App) (kt0 : Nat → Nat → Int → Sl → Int → Int → Hp → Option (Bool × Hp)) (v1 : Nat) (v2 : Nat) (v3 : Int) (v4 : Nat) (v5 : Int) (v6 : Sl) (v7 : Sl) (v8 : Int) (v9 : Sl) (v10 : Int) (v11 : Int) (v12 : Bool) (H : Hp) : Option (Bool × Hp) :=
  if v12 = true then
    (some (false, H))
  else
    ((H.ldI .i64 v4 (0 + 0)).bind fun x2 =>
    if x2 = 0 then
      (r4_j3 app kt0 v1 v2 v3 v4 v5 v6 v7 v8 v9 v10 v11 (decide (v8 = 0)) H)
    else
      (r4_j3 app kt0 v1 v2 v3 v4 v5 v6 v7 v8 v9 v10 v11 false H))
noncomputable def r4_j5 (app : App) (kt0 : Nat → Nat → Int → Sl → Int → Int → Hp → Option (Bool × Hp)) (v1 : Nat) (v2 : Nat) (v3 : Int) (v4 : Nat) (v5 : Int) (v6 : Sl) (v7 : Sl) (v8 : Int) (v9 : Sl) (v10 : Int) (v11 : Int) (H : Hp) : Option (Bool × Hp) :=
  (r17 v1 v2 H).bind fun p1 =>
  (r20 p1.1 v7 p1.2).bind fun p2 =>
  if p2.1 = true then
    ((p2.2.ldI .i64 v4 (0 + 0)).bind fun x4 =>
    if x4 ≠ 0 then
      ((r17 v1 v2 p2.2).bind fun p6 =>
      r4_j4 app kt0 v1 v2 v3 v4 v5 v6 v7 v8 v9 v10 v11 (decide ((p6.1.len : Int) ≠ (v7.len : Int))) p6.2)
    else
      (r4_j4 app kt0 v1 v2 v3 v4 v5 v6 v7 v8 v9 v10 v11 false p2.2))
  else
    (r4_j4 app kt0 v1 v2 v3 v4 v5 v6 v7 v8 v9 v10 v11 true p2.2)
noncomputable def r4_j9 (app : App) (kt8 : Nat → Nat → Int → Int → Int → Int → Int → Sl → Int → Int → Hp → Option (Bool × Hp)) (v1 : Nat) (v2 : Nat) (v3 : Int) (v4 : Int) (v5 : Int) (v6 : Int) (v7 : Int) (v8 : Sl) (v9 : Int) (v10 : Int) (v11 : Bool) (H : Hp) : Option (Bool × Hp) :=
  if v11 = true then
    (some (false, H))
  else
    (kt8 v1 v2 v3 v4 v5 v6 v7 v8 v9 (w64 (v10 + 1)) H)
noncomputable def r4_j10 (app : App) (kt6 : Nat → Nat → Int → Int → Int → Hp → Option (Bool × Hp)) (v1 : Nat) (v2 : Nat) (v3 : Int) (v4 : Int) (v5 : Int) (v6 : Bool) (H : Hp) : Option (Bool × Hp) :=
  if v6 = true then
    (some (false, H))
  else
    (kt6 v1 v2 v3 v4 (w64 (v5 + 1)) H)
noncomputable def r4_l8 (app : App) (kt6 : Nat → Nat → Int → Int → Int → Hp → Option (Bool × Hp)) : Nat → Nat → Nat → Int → Int → Int → Int → Int → Sl → Int → Int → Hp → Option (Bool × Hp)
  | 0, _, _, _, _, _, _, _, _, _, _, _ => none
  | k_ + 1, v1, v2, v3, v4, v5, v6, v7, v8, v9, v10, H => if v10 < v9 then
    (ck ((0 : Int) ≤ v10 ∧ v10 < (v8.len : Int)) (
    (H.ldI .i64 v8.b (v8.o + (v10 : Int).toNat * 1)).bind fun x3 =>
    if x3 ≤ v4 then
      (r4_j9 app (fun v1_ v2_ v3_ v4_ v5_ v6_ v7_ v8_ v9_ v10_ H_ => r4_l8 app kt6 k_ v1_ v2_ v3_ v4_ v5_ v6_ v7_ v8_ v9_ v10_ H_) v1 v2 v3 v4 v5 v6 v7 v8 v9 v10 true H)
    else
      (r4_j9 app (fun v1_ v2_ v3_ v4_ v5_ v6_ v7_ v8_ v9_ v10_ H_ => r4_l8 app kt6 k_ v1_ v2_ v3_ v4_ v5_ v6_ v7_ v8_ v9_ v10_ H_) v1 v2 v3 v4 v5 v6 v7 v8 v9 v10 (decide (v3 ≤ x3)) H)))
  else
    (if 0 < v4 then
      (if v5 < 1 then
        (r4_j10 app kt6 v1 v2 v3 v6 v7 true H)
      else
        ((r19 v1 v2 1 H).bind fun p7 =>
        if p7.1 ≠ 0 then
          (r4_j10 app kt6 v1 v2 v3 v6 v7 true p7.2)
        else
          ((r15 v1 v2 p7.2).bind fun p9 =>
          if v4 ≤ p9.1 then
            (r4_j10 app kt6 v1 v2 v3 v6 v7 true p9.2)
          else
            ((r22 v1 v2 p9.2).bind fun p11 =>
            (r23 p11.1 v4 p11.2).bind fun p12 =>
            r4_j10 app kt6 v1 v2 v3 v6 v7 (!p12.1) p12.2))))
    else
      (r4_j10 app kt6 v1 v2 v3 v6 v7 false H))
noncomputable def r4_l6 (app : App) : Nat → Nat → Nat → Int → Int → Int → Hp → Option (Bool × Hp)
  | 0, _, _, _, _, _, _ => none
  | k_ + 1, v1, v2, v3, v4, v5, H => if v5 < v4 then
    ((r10 app v1 v2 v5 H).bind fun p2 =>
    if p2.1 ≠ 0 then
      (some (false, p2.2))
    else
      ((r16 v1 v2 p2.2).bind fun p4 =>
      (r22 v1 v2 p4.2).bind fun p5 =>
      r4_l8 app (fun v1_ v2_ v3_ v4_ v5_ H_ => r4_l6 app k_ v1_ v2_ v3_ v4_ v5_ H_) FUEL v1 v2 v3 v5 (p4.1.len : Int) v4 v5 p5.1 (p5.1.len : Int) 0 p5.2))
  else
    ((r10 app v1 v2 v3 H).bind fun p6 =>
    if p6.1 = 2 then
      ((r10 app v1 v2 (-1) p6.2).bind fun p8 =>
      if p8.1 = 2 then
        ((app 13 [] p8.2).bind fun p10 =>
        (p10.1.asB).bind fun x11 =>
        some (x11, p10.2))
      else
        (some (false, p8.2)))
    else
      (some (false, p6.2)))
noncomputable def r4_l0 (app : App) : Nat → Nat → Nat → Int → Sl → Int → Int → Hp → Option (Bool × Hp)
  | 0, _, _, _, _, _, _, _ => none
  | k_ + 1, v1, v2, v3, v4, v5, v6, H => if v6 < v5 then
    (ck ((0 : Int) ≤ v6 ∧ v6 < (v4.len : Int)) (
    (H.ldI .i64 v4.b (v4.o + (v6 : Int).toNat * 4)).bind fun x3 =>
    (H.ldI .i64 v4.b ((v4.o + (v6 : Int).toNat * 4) + 1)).bind fun x4 =>
    (H.ldI .i64 v4.b ((v4.o + (v6 : Int).toNat * 4) + 2)).bind fun x5 =>
    (H.ldStr v4.b ((v4.o + (v6 : Int).toNat * 4) + 3)).bind fun x6 =>
    ((H.push (.cells [.int .i64 0, .int .i64 0, .int .i64 0, .str (ByteArray.mk #[])] false)).sts H.n 0 [.int .i64 x3, .int .i64 x4, .int .i64 x5, .str x6]).bind fun H7 =>
    (r15 v1 v2 H7).bind fun p8 =>
    (r16 v1 v2 p8.2).bind fun p9 =>
    (r17 v1 v2 p9.2).bind fun p10 =>
    (p10.2.ldI .i64 H.n (0 + 0)).bind fun x11 =>
    if x11 = 0 then
      ((p10.2.ldStr H.n (0 + 3)).bind fun x13 =>
      (r18 app v1 v2 x13 p10.2).bind fun p14 =>
      r4_j5 app (fun v1_ v2_ v3_ v4_ v5_ v6_ H_ => r4_l0 app k_ v1_ v2_ v3_ v4_ v5_ v6_ H_) v1 v2 v3 H.n p8.1 p9.1 p10.1 p14.1.2 v4 v5 v6 p14.2)
    else
      (if x11 = 2 then
        ((p10.2.ldI .i64 H.n (0 + 1)).bind fun x16 =>
        (r10 app v1 v2 x16 p10.2).bind fun p17 =>
        r4_j5 app (fun v1_ v2_ v3_ v4_ v5_ v6_ H_ => r4_l0 app k_ v1_ v2_ v3_ v4_ v5_ v6_ H_) v1 v2 v3 H.n p8.1 p9.1 p10.1 p17.1 v4 v5 v6 p17.2)
      else
        (if x11 = 3 then
          ((p10.2.ldI .i64 H.n (0 + 1)).bind fun x19 =>
          (r19 v1 v2 x19 p10.2).bind fun p20 =>
          r4_j5 app (fun v1_ v2_ v3_ v4_ v5_ v6_ H_ => r4_l0 app k_ v1_ v2_ v3_ v4_ v5_ v6_ H_) v1 v2 v3 H.n p8.1 p9.1 p10.1 p20.1 v4 v5 v6 p20.2)
        else
          (r4_j5 app (fun v1_ v2_ v3_ v4_ v5_ v6_ H_ => r4_l0 app k_ v1_ v2_ v3_ v4_ v5_ v6_ H_) v1 v2 v3 H.n p8.1 p9.1 p10.1 3 v4 v5 v6 p10.2)))))
  else
    (r4_l6 app FUEL v1 v2 v3 v3 0 H)
noncomputable def r4 (app : App) (a0 : Sl) (H : Hp) : Option (Bool × Hp) :=
  (r14 H).bind fun p1 =>
  ck (((0 : Int) ≤ 0 ∧ 0 ≤ (if 40 < (a0.len : Int) then 40 else (a0.len : Int)) ∧ (if 40 < (a0.len : Int) then 40 else (a0.len : Int)) ≤ (a0.cap : Int)) ∧ (a0.opn = 0 ∨ a0.opn = 4)) (
  r4_l0 app FUEL p1.1.1 p1.1.2 1 (a0.cut 4 (0 : Int).toNat ((if 40 < (a0.len : Int) then 40 else (a0.len : Int)) : Int).toNat) ((a0.cut 4 (0 : Int).toNat ((if 40 < (a0.len : Int) then 40 else (a0.len : Int)) : Int).toNat).len : Int) 0 p1.2)
/- 41 (*congou/chest.Chest).has$1 -/
def ret41 : Bool → AV := fun r => .bool r
noncomputable def r41 (a0 : Int) (c0 : Nat) (H : Hp) : Option (Bool × Hp) :=
  if a0 < 0 then
    (some (true, H))
  else
    ((H.ldP c0 0).bind fun x2 =>
    (H.ldSl x2.1 (x2.2 + 0)).bind fun x3 =>
    some ((decide ((x3.len : Int) ≤ a0)), H))
/- 101 slices.IndexFunc[[]congou/chest.leaf,congou/chest.leaf] -/
def ret101 : Int → AV := fun r => .int .i64 r
noncomputable def r101_l0 (app : App) : Nat → Sl → AV → Int → Int → Hp → Option (Int × Hp)
  | 0, _, _, _, _, _ => none
  | k_ + 1, v1, v2, v3, v4, H => if v4 < v3 then
    (ck ((0 : Int) ≤ v4 ∧ v4 < (v1.len : Int)) (
    (H.ldStr v1.b (v1.o + (v4 : Int).toNat * 2)).bind fun x3 =>
    (H.ldI .i64 v1.b ((v1.o + (v4 : Int).toNat * 2) + 1)).bind fun x4 =>
    (callv app v2 [.agg [.str x3, .int .i64 x4]] H).bind fun p5 =>
    (p5.1.asB).bind fun x6 =>
    if x6 = true then
      (some (v4, p5.2))
    else
      (r101_l0 app k_ v1 v2 v3 (w64 (v4 + 1)) p5.2)))
  else
    (some ((-1), H))
noncomputable def r101 (app : App) (a0 : Sl) (a1 : AV) (H : Hp) : Option (Int × Hp) :=
  r101_l0 app FUEL a0 a1 (a0.len : Int) 0 H
/- 75 (*congou/chest.state).find -/
def ret75 : Int → AV := fun r => .int .i64 r
noncomputable def r75 (app : App) (a0b : Nat) (a0o : Nat) (a1 : ByteArray) (H : Hp) : Option (Int × Hp) :=
  lt (H.push (.cells [.str a1] false)) fun H1 =>
  (H1.ldSl a0b (a0o + 0)).bind fun x2 =>
  (r101 app x2 (.fn 102 [] [.ptr H.n 0]) H1).bind fun p3 =>
  some (p3.1, p3.2)
/- 44 (*congou/chest.state).leaf -/
def ret44 : Int → AV := fun r => .int .i64 r
noncomputable def r44 (app : App) (a0b : Nat) (a0o : Nat) (a1_0 : Sl) (a1_1 : Sl) (H : Hp) : Option (Int × Hp) :=
  lt (H.push (.cells [.sl a1_0, .sl a1_1] false)) fun H1 =>
  (H1.ldSl H.n (0 + 0)).bind fun x2 =>
  ck ((0 : Int) ≤ 0 ∧ 0 < (x2.len : Int)) (
  (H1.ldStr x2.b (x2.o + (0 : Int).toNat * 1)).bind fun x4 =>
  (r75 app a0b a0o x4 H1).bind fun p5 =>
  if 0 ≤ p5.1 then
    (some (5, p5.2))
  else
    ((p5.2.ldSl H.n (0 + 1)).bind fun x7 =>
    ck ((0 : Int) ≤ 0 ∧ 0 < (x7.len : Int)) (
    (p5.2.ldI .i64 x7.b (x7.o + (0 : Int).toNat * 1)).bind fun x9 =>
    if 20 < x9 then
      (some (2, p5.2))
    else
      ((p5.2.ldSl a0b (a0o + 0)).bind fun x11 =>
      if (x11.len : Int) = 6 then
        (some (7, p5.2))
      else
        ((p5.2.ldSl a0b (a0o + 0)).bind fun x13 =>
        (p5.2.ldSl H.n (0 + 0)).bind fun x14 =>
        ck ((0 : Int) ≤ 0 ∧ 0 < (x14.len : Int)) (
        (p5.2.ldStr x14.b (x14.o + (0 : Int).toNat * 1)).bind fun x16 =>
        (p5.2.ldSl H.n (0 + 1)).bind fun x17 =>
        ck ((0 : Int) ≤ 0 ∧ 0 < (x17.len : Int)) (
        (p5.2.ldI .i64 x17.b (x17.o + (0 : Int).toNat * 1)).bind fun x19 =>
        (p5.2.apN 2 x13 [.str x16, .int .i64 x19] 1).bind fun x20 =>
        (x20.2.st a0b (a0o + 0) (.sl x20.1)).bind fun H21 =>
        some (0, H21))))))))
/- 76 (*congou/chest.state).stocks -/
def ret76 : Sl → AV := fun r => .sl r
noncomputable def r76_l0 : Nat → Sl → Sl → Int → Int → Hp → Option (Sl × Hp)
  | 0, _, _, _, _, _ => none
  | k_ + 1, v1, v2, v3, v4, H => if v4 < v3 then
    (ck ((0 : Int) ≤ v4 ∧ v4 < (v2.len : Int)) (
    (H.ldStr v2.b (v2.o + (v4 : Int).toNat * 2)).bind fun x3 =>
    (H.ldI .i64 v2.b ((v2.o + (v4 : Int).toNat * 2) + 1)).bind fun x4 =>
    ((H.push (.cells [.str (ByteArray.mk #[]), .int .i64 0] false)).sts H.n 0 [.str x3, .int .i64 x4]).bind fun H5 =>
    (H5.ldI .i64 H.n (0 + 1)).bind fun x6 =>
    (H5.apN 1 v1 [.int .i64 x6] 1).bind fun x7 =>
    r76_l0 k_ x7.1 v2 v3 (w64 (v4 + 1)) x7.2))
  else
    (some (v1, H))
noncomputable def r76 (a0b : Nat) (a0o : Nat) (H : Hp) : Option (Sl × Hp) :=
  (H.ldSl a0b (a0o + 0)).bind fun x1 =>
  r76_l0 FUEL ⟨true, 0, 0, 0, 0, 0⟩ x1 (x1.len : Int) 0 H
/- 156 slices.Min[[]int,int] -/
def ret156 : Int → AV := fun r => .int .i64 r
noncomputable def r156_l0 : Nat → Sl → Int → Int → Hp → Option (Int × Hp)
  | 0, _, _, _, _ => none
  | k_ + 1, v1, v2, v3, H => if v3 < (v1.len : Int) then
    (ck ((0 : Int) ≤ v3 ∧ v3 < (v1.len : Int)) (
    (H.ldI .i64 v1.b (v1.o + (v3 : Int).toNat * 1)).bind fun x3 =>
    r156_l0 k_ v1 (if x3 < v2 then x3 else v2) (w64 (v3 + 1)) H))
  else
    (some (v2, H))
noncomputable def r156 (a0 : Sl) (H : Hp) : Option (Int × Hp) :=
  if (a0.len : Int) < 1 then
    (none)
  else
    (ck ((0 : Int) ≤ 0 ∧ 0 < (a0.len : Int)) (
    (H.ldI .i64 a0.b (a0.o + (0 : Int).toNat * 1)).bind fun x3 =>
    r156_l0 FUEL a0 x3 1 H))
/- 157 slices.Max[[]int,int] -/
def ret157 : Int → AV := fun r => .int .i64 r
noncomputable def r157_l0 : Nat → Sl → Int → Int → Hp → Option (Int × Hp)
  | 0, _, _, _, _ => none
  | k_ + 1, v1, v2, v3, H => if v3 < (v1.len : Int) then
    (ck ((0 : Int) ≤ v3 ∧ v3 < (v1.len : Int)) (
    (H.ldI .i64 v1.b (v1.o + (v3 : Int).toNat * 1)).bind fun x3 =>
    r157_l0 k_ v1 (if v2 < x3 then x3 else v2) (w64 (v3 + 1)) H))
  else
    (some (v2, H))
noncomputable def r157 (a0 : Sl) (H : Hp) : Option (Int × Hp) :=
  if (a0.len : Int) < 1 then
    (none)
  else
    (ck ((0 : Int) ≤ 0 ∧ 0 < (a0.len : Int)) (
    (H.ldI .i64 a0.b (a0.o + (0 : Int).toNat * 1)).bind fun x3 =>
    r157_l0 FUEL a0 x3 1 H))
/- 103 congou/shares.are -/
def ret103 : Bool → AV := fun r => .bool r
noncomputable def r103_j1 (kt0 : Sl → Sl → Int → Int → Hp → Option (Bool × Hp)) (v1 : Sl) (v2 : Sl) (v3 : Int) (v4 : Int) (v5 : Bool) (H : Hp) : Option (Bool × Hp) :=
  if v5 = true then
    (some (false, H))
  else
    (kt0 v1 v2 v3 (w64 (v4 + 1)) H)
noncomputable def r103_l0 : Nat → Sl → Sl → Int → Int → Hp → Option (Bool × Hp)
  | 0, _, _, _, _, _ => none
  | k_ + 1, v1, v2, v3, v4, H => if v4 < v3 then
    (ck ((0 : Int) ≤ v4 ∧ v4 < (v2.len : Int)) (
    (H.ldSl v2.b (v2.o + (v4 : Int).toNat * 1)).bind fun x3 =>
    if (x3.len : Int) < 1 then
      (r103_j1 (fun v1_ v2_ v3_ v4_ H_ => r103_l0 k_ v1_ v2_ v3_ v4_ H_) v1 v2 v3 v4 true H)
    else
      (if 6 < (x3.len : Int) then
        (r103_j1 (fun v1_ v2_ v3_ v4_ H_ => r103_l0 k_ v1_ v2_ v3_ v4_ H_) v1 v2 v3 v4 true H)
      else
        (ck ((0 : Int) ≤ 0 ∧ 0 < (v1.len : Int)) (
        (H.ldSl v1.b (v1.o + (0 : Int).toNat * 1)).bind fun x7 =>
        if (x3.len : Int) ≠ (x7.len : Int) then
          (r103_j1 (fun v1_ v2_ v3_ v4_ H_ => r103_l0 k_ v1_ v2_ v3_ v4_ H_) v1 v2 v3 v4 true H)
        else
          ((r156 x3 H).bind fun p9 =>
          if p9.1 < 0 then
            (r103_j1 (fun v1_ v2_ v3_ v4_ H_ => r103_l0 k_ v1_ v2_ v3_ v4_ H_) v1 v2 v3 v4 true p9.2)
          else
            ((r157 x3 p9.2).bind fun p11 =>
            r103_j1 (fun v1_ v2_ v3_ v4_ H_ => r103_l0 k_ v1_ v2_ v3_ v4_ H_) v1 v2 v3 v4 (decide (20 < p11.1)) p11.2)))))))
  else
    (some (true, H))
noncomputable def r103 (a0 : Sl) (H : Hp) : Option (Bool × Hp) :=
  r103_l0 FUEL a0 a0 (a0.len : Int) 0 H
/- 104 (congou/shares.Give).do -/
def ret104 : Bool → AV := fun r => .bool r
noncomputable def r104_j0 (v1 : Sl) (v2 : Nat) (v3 : Bool) (H : Hp) : Option (Bool × Hp) :=
  if v3 = true then
    (some (false, H))
  else
    ((H.ldI .i64 v2 (0 + 0)).bind fun x2 =>
    ck ((0 : Int) ≤ x2 ∧ x2 < (v1.len : Int)) (
    (H.ldI .i64 v1.b (v1.o + (x2 : Int).toNat * 1)).bind fun x4 =>
    (H.ldI .i64 v2 (0 + 2)).bind fun x5 =>
    ck ((0 : Int) ≤ x2 ∧ x2 < (v1.len : Int)) (
    (H.st v1.b (v1.o + (x2 : Int).toNat * 1) (.int .i64 (w64 (x4 - x5)))).bind fun H7 =>
    (H7.ldI .i64 v2 (0 + 1)).bind fun x8 =>
    ck ((0 : Int) ≤ x8 ∧ x8 < (v1.len : Int)) (
    (H7.ldI .i64 v1.b (v1.o + (x8 : Int).toNat * 1)).bind fun x10 =>
    (H7.ldI .i64 v2 (0 + 2)).bind fun x11 =>
    ck ((0 : Int) ≤ x8 ∧ x8 < (v1.len : Int)) (
    (H7.st v1.b (v1.o + (x8 : Int).toNat * 1) (.int .i64 (w64 (x10 + x11)))).bind fun H13 =>
    some (true, H13))))))
noncomputable def r104 (a0_0 : Int) (a0_1 : Int) (a0_2 : Int) (a1 : Sl) (H : Hp) : Option (Bool × Hp) :=
  lt (H.push (.cells [.int .i64 a0_0, .int .i64 a0_1, .int .i64 a0_2] false)) fun H1 =>
  (H1.ldI .i64 H.n (0 + 0)).bind fun x2 =>
  if x2 < 0 then
    (r104_j0 a1 H.n true H1)
  else
    ((H1.ldI .i64 H.n (0 + 0)).bind fun x4 =>
    if (a1.len : Int) ≤ x4 then
      (r104_j0 a1 H.n true H1)
    else
      ((H1.ldI .i64 H.n (0 + 1)).bind fun x6 =>
      if x6 < 0 then
        (r104_j0 a1 H.n true H1)
      else
        ((H1.ldI .i64 H.n (0 + 1)).bind fun x8 =>
        if (a1.len : Int) ≤ x8 then
          (r104_j0 a1 H.n true H1)
        else
          ((H1.ldI .i64 H.n (0 + 0)).bind fun x10 =>
          (H1.ldI .i64 H.n (0 + 1)).bind fun x11 =>
          if x10 = x11 then
            (r104_j0 a1 H.n true H1)
          else
            ((H1.ldI .i64 H.n (0 + 2)).bind fun x13 =>
            if x13 < 1 then
              (r104_j0 a1 H.n true H1)
            else
              ((H1.ldI .i64 H.n (0 + 2)).bind fun x15 =>
              if 20 < x15 then
                (r104_j0 a1 H.n true H1)
              else
                ((H1.ldI .i64 H.n (0 + 0)).bind fun x17 =>
                ck ((0 : Int) ≤ x17 ∧ x17 < (a1.len : Int)) (
                (H1.ldI .i64 a1.b (a1.o + (x17 : Int).toNat * 1)).bind fun x19 =>
                (H1.ldI .i64 H.n (0 + 1)).bind fun x20 =>
                ck ((0 : Int) ≤ x20 ∧ x20 < (a1.len : Int)) (
                (H1.ldI .i64 a1.b (a1.o + (x20 : Int).toNat * 1)).bind fun x22 =>
                (H1.ldI .i64 H.n (0 + 2)).bind fun x23 =>
                r104_j0 a1 H.n (decide ((w64 (x19 - x22)) < (w64 (2 * x23)))) H1)))))))))
/- 105 slices.Equal[[]int,int] -/
def ret105 : Bool → AV := fun r => .bool r
noncomputable def r105_l0 : Nat → Sl → Sl → Int → Int → Hp → Option (Bool × Hp)
  | 0, _, _, _, _, _ => none
  | k_ + 1, v1, v2, v3, v4, H => if v4 < v3 then
    (ck ((0 : Int) ≤ v4 ∧ v4 < (v1.len : Int)) (
    (H.ldI .i64 v1.b (v1.o + (v4 : Int).toNat * 1)).bind fun x3 =>
    ck ((0 : Int) ≤ v4 ∧ v4 < (v2.len : Int)) (
    (H.ldI .i64 v2.b (v2.o + (v4 : Int).toNat * 1)).bind fun x5 =>
    if x3 ≠ x5 then
      (some (false, H))
    else
      (r105_l0 k_ v1 v2 v3 (w64 (v4 + 1)) H))))
  else
    (some (true, H))
noncomputable def r105 (a0 : Sl) (a1 : Sl) (H : Hp) : Option (Bool × Hp) :=
  if (a0.len : Int) ≠ (a1.len : Int) then
    (some (false, H))
  else
    (r105_l0 FUEL a0 a1 (a0.len : Int) 0 H)
end Go.Lt.P10
