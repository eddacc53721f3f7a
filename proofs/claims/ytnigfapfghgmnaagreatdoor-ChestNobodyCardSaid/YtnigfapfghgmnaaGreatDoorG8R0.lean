/- PRINTED BY A PROGRAM OF OURS: what each function that 'ChestNobody' reaches computes on the abstract heap, and that the translated code does just that. Nothing is asked of the input. -/
import Derived.Test.YtnigfapfghgmnaaGreatDoorG8T
set_option linter.unusedVariables false
set_option linter.unusedSimpArgs false
set_option maxRecDepth 100000
set_option maxHeartbeats 4000000
namespace Go.Lt.P10
open Go Go.Lt Go.Proofs
/- 28 (*congou/chest.Chest).none -/
def ret28 : Bool → AV := fun r => .bool r
noncomputable def r28 (a0 : AV) (H : Hp) : Option (Bool × Hp) :=
  (AV.isp a0).bind fun x1 =>
  if x1 = true then
    ((a0.asP).bind fun x3 =>
    (H.ldSl x3.1 (x3.2 + 0)).bind fun x4 =>
    some ((decide ((x4.len : Int) = 0)), H))
  else
    (some (true, H))
/- 10 (*congou/chest.Chest).Go -/
def ret10 : Int → AV := fun r => .int .i64 r
noncomputable def r10 (a0 : AV) (a1 : Int) (H : Hp) : Option (Int × Hp) :=
  (r28 a0 H).bind fun p1 =>
  if p1.1 = true then
    (some (1, p1.2))
  else
    (none)
/- 11 (*congou/chest.Chest).Fork -/
def ret11 : Int × Int → AV := fun r => .tup [.int .i64 r.1, .int .i64 r.2]
noncomputable def r11 (a0 : AV) (a1 : Int) (a2 : Int) (H : Hp) : Option ((Int × Int) × Hp) :=
  (r28 a0 H).bind fun p1 =>
  if p1.1 = true then
    (some ((0, 1), p1.2))
  else
    (none)
/- 14 congou/chest.New -/
def ret14 : Nat × Nat → AV := fun r => .ptr r.1 r.2
noncomputable def r14 (H : Hp) : Option ((Nat × Nat) × Hp) :=
  lt (((H.push (.cells [.sl ⟨true, 0, 0, 0, 0, 0⟩, .sl ⟨true, 0, 0, 0, 0, 0⟩, .int .i64 0, .int .i64 0, .int .i64 0, .int .i64 0, .sl ⟨true, 0, 0, 0, 0, 0⟩] false)).push (.cells [.str (ByteArray.mk #[]), .int .i64 0, .ptr H.n 0] false)).push (.cells [.sl ⟨false, (H.push (.cells [.sl ⟨true, 0, 0, 0, 0, 0⟩, .sl ⟨true, 0, 0, 0, 0, 0⟩, .int .i64 0, .int .i64 0, .int .i64 0, .int .i64 0, .sl ⟨true, 0, 0, 0, 0, 0⟩] false)).n, 0, 1, 1, 0⟩, .int .i64 0] false)) fun H1 =>
  some ((((H.push (.cells [.sl ⟨true, 0, 0, 0, 0, 0⟩, .sl ⟨true, 0, 0, 0, 0, 0⟩, .int .i64 0, .int .i64 0, .int .i64 0, .int .i64 0, .sl ⟨true, 0, 0, 0, 0, 0⟩] false)).push (.cells [.str (ByteArray.mk #[]), .int .i64 0, .ptr H.n 0] false)).n, 0), H1)
/- 15 (*congou/chest.Chest).At -/
def ret15 : Int → AV := fun r => .int .i64 r
noncomputable def r15 (a0 : AV) (H : Hp) : Option (Int × Hp) :=
  (r28 a0 H).bind fun p1 =>
  if p1.1 = true then
    (some (0, p1.2))
  else
    ((a0.asP).bind fun x3 =>
    (p1.2.ldI .i64 x3.1 (x3.2 + 1)).bind fun x4 =>
    some (x4, p1.2))
/- 33 (*congou/chest.Chest).now -/
def ret33 : Nat × Nat → AV := fun r => .ptr r.1 r.2
noncomputable def r33 (a0b : Nat) (a0o : Nat) (H : Hp) : Option ((Nat × Nat) × Hp) :=
  (H.ldSl a0b (a0o + 0)).bind fun x1 =>
  (H.ldI .i64 a0b (a0o + 1)).bind fun x2 =>
  ck ((0 : Int) ≤ x2 ∧ x2 < (x1.len : Int)) (
  (H.ldP x1.b ((x1.o + (x2 : Int).toNat * 3) + 2)).bind fun x4 =>
  some ((x4.1, x4.2), H))
/- 152 internal/stringslite.IndexByte -/
def ret152 : Int → AV := fun r => .int .i64 r
noncomputable def r152 (a0 : ByteArray) (a1 : Int) (H : Hp) : Option (Int × Hp) :=
  some (strIdx a0 a1, H)
/- 154 internal/bytealg.Cutover -/
def ret154 : Int → AV := fun r => .int .i64 r
noncomputable def r154 (a0 : Int) (H : Hp) : Option (Int × Hp) :=
  some (w64 (Int.tdiv (w64 (a0 + 16)) 8), H)
/- 217 internal/bytealg.hashStr[string] -/
def ret217 : Int × Int → AV := fun r => .tup [.int .u32 r.1, .int .u32 r.2]
noncomputable def r217_j2 (kt1 : Int → Int → Int → Int → Hp → Option ((Int × Int) × Hp)) (v1 : Int) (v2 : Int) (v3 : Int) (v4 : Int) (H : Hp) : Option ((Int × Int) × Hp) :=
  kt1 v1 v2 (IntKind.wrap .u32 (v3 * v3)) (shrOf .i64 v4 1) H
noncomputable def r217_l1 : Nat → Int → Int → Int → Int → Hp → Option ((Int × Int) × Hp)
  | 0, _, _, _, _, _ => none
  | k_ + 1, v1, v2, v3, v4, H => if 0 < v4 then
    (if (bitsOf .and .i64 v4 1) ≠ 0 then
      (r217_j2 (fun v1_ v2_ v3_ v4_ H_ => r217_l1 k_ v1_ v2_ v3_ v4_ H_) v1 (IntKind.wrap .u32 (v2 * v3)) v3 v4 H)
    else
      (r217_j2 (fun v1_ v2_ v3_ v4_ H_ => r217_l1 k_ v1_ v2_ v3_ v4_ H_) v1 v2 v3 v4 H))
  else
    (some ((v1, v2), H))
noncomputable def r217_l0 : Nat → ByteArray → Int → Int → Hp → Option ((Int × Int) × Hp)
  | 0, _, _, _, _ => none
  | k_ + 1, v1, v2, v3, H => if v3 < (v1.size : Int) then
    (ck ((0 : Int) ≤ v3 ∧ v3 < (v1.size : Int)) (
    r217_l0 k_ v1 (IntKind.wrap .u32 ((IntKind.wrap .u32 (v2 * 16777619)) + (IntKind.wrap .u32 (bt v1 v3)))) (w64 (v3 + 1)) H))
  else
    (r217_l1 FUEL v2 1 16777619 (v1.size : Int) H)
noncomputable def r217 (a0 : ByteArray) (H : Hp) : Option ((Int × Int) × Hp) :=
  r217_l0 FUEL a0 0 0 H
/- 155 internal/bytealg.IndexRabinKarp[string] -/
def ret155 : Int → AV := fun r => .int .i64 r
noncomputable def r155_j3 (kt1 : ByteArray → ByteArray → Int → Int → Int → Int → Int → Hp → Option (Int × Hp)) (v1 : ByteArray) (v2 : ByteArray) (v3 : Int) (v4 : Int) (v5 : Int) (v6 : Int) (v7 : Int) (v8 : Bool) (H : Hp) : Option (Int × Hp) :=
  if v8 = true then
    (some (w64 (v7 - v5), H))
  else
    (kt1 v1 v2 v3 v4 v5 v6 v7 H)
noncomputable def r155_l1 : Nat → ByteArray → ByteArray → Int → Int → Int → Int → Int → Hp → Option (Int × Hp)
  | 0, _, _, _, _, _, _, _, _ => none
  | k_ + 1, v1, v2, v3, v4, v5, v6, v7, H => if v7 < (v1.size : Int) then
    (ck ((0 : Int) ≤ v7 ∧ v7 < (v1.size : Int)) (
    ck ((0 : Int) ≤ (w64 (v7 - v5)) ∧ (w64 (v7 - v5)) < (v1.size : Int)) (
    if (IntKind.wrap .u32 ((IntKind.wrap .u32 ((IntKind.wrap .u32 (v6 * 16777619)) + (IntKind.wrap .u32 (bt v1 v7)))) - (IntKind.wrap .u32 (v4 * (IntKind.wrap .u32 (bt v1 (w64 (v7 - v5)))))))) = v3 then
      (ck ((0 : Int) ≤ (w64 ((w64 (v7 + 1)) - v5)) ∧ (w64 ((w64 (v7 + 1)) - v5)) ≤ (w64 (v7 + 1)) ∧ (w64 (v7 + 1)) ≤ (v1.size : Int)) (
      r155_j3 (fun v1_ v2_ v3_ v4_ v5_ v6_ v7_ H_ => r155_l1 k_ v1_ v2_ v3_ v4_ v5_ v6_ v7_ H_) v1 v2 v3 v4 v5 (IntKind.wrap .u32 ((IntKind.wrap .u32 ((IntKind.wrap .u32 (v6 * 16777619)) + (IntKind.wrap .u32 (bt v1 v7)))) - (IntKind.wrap .u32 (v4 * (IntKind.wrap .u32 (bt v1 (w64 (v7 - v5)))))))) (w64 (v7 + 1)) (strEq (v1.extract (w64 ((w64 (v7 + 1)) - v5) : Int).toNat (w64 (v7 + 1) : Int).toNat) v2) H))
    else
      (r155_j3 (fun v1_ v2_ v3_ v4_ v5_ v6_ v7_ H_ => r155_l1 k_ v1_ v2_ v3_ v4_ v5_ v6_ v7_ H_) v1 v2 v3 v4 v5 (IntKind.wrap .u32 ((IntKind.wrap .u32 ((IntKind.wrap .u32 (v6 * 16777619)) + (IntKind.wrap .u32 (bt v1 v7)))) - (IntKind.wrap .u32 (v4 * (IntKind.wrap .u32 (bt v1 (w64 (v7 - v5)))))))) (w64 (v7 + 1)) false H))))
  else
    (some ((-1), H))
noncomputable def r155_j2 (v1 : ByteArray) (v2 : ByteArray) (v3 : Int) (v4 : Int) (v5 : Int) (v6 : Int) (v7 : Bool) (H : Hp) : Option (Int × Hp) :=
  if v7 = true then
    (some (0, H))
  else
    (r155_l1 FUEL v1 v2 v3 v4 v5 v6 v5 H)
noncomputable def r155_l0 : Nat → ByteArray → ByteArray → Int → Int → Int → Int → Int → Hp → Option (Int × Hp)
  | 0, _, _, _, _, _, _, _, _ => none
  | k_ + 1, v1, v2, v3, v4, v5, v6, v7, H => if v7 < v5 then
    (ck ((0 : Int) ≤ v7 ∧ v7 < (v1.size : Int)) (
    r155_l0 k_ v1 v2 v3 v4 v5 (IntKind.wrap .u32 ((IntKind.wrap .u32 (v6 * 16777619)) + (IntKind.wrap .u32 (bt v1 v7)))) (w64 (v7 + 1)) H))
  else
    (if v6 = v3 then
      (ck ((0 : Int) ≤ 0 ∧ 0 ≤ v5 ∧ v5 ≤ (v1.size : Int)) (
      r155_j2 v1 v2 v3 v4 v5 v6 (strEq (v1.extract (0 : Int).toNat (v5 : Int).toNat) v2) H))
    else
      (r155_j2 v1 v2 v3 v4 v5 v6 false H))
noncomputable def r155 (a0 : ByteArray) (a1 : ByteArray) (H : Hp) : Option (Int × Hp) :=
  (r217 a1 H).bind fun p1 =>
  r155_l0 FUEL a0 a1 p1.1.1 p1.1.2 (a1.size : Int) 0 0 p1.2
/- 100 internal/stringslite.Index -/
def ret100 : Int → AV := fun r => .int .i64 r
noncomputable def r100_j0 (app : App) (v1 : ByteArray) (v2 : ByteArray) (v3 : Int) (v4 : Bool) (H : Hp) : Option (Int × Hp) :=
  if v4 = true then
    (some (0, H))
  else
    (if v3 = 1 then
      (ck ((0 : Int) ≤ 0 ∧ 0 < (v2.size : Int)) (
      (r152 v1 (bt v2 0) H).bind fun p4 =>
      some (p4.1, p4.2)))
    else
      (if (v1.size : Int) ≤ v3 then
        (some ((-1), H))
      else
        (none)))
noncomputable def r100 (app : App) (a0 : ByteArray) (a1 : ByteArray) (H : Hp) : Option (Int × Hp) :=
  if (a1.size : Int) = 0 then
    (r100_j0 app a0 a1 (a1.size : Int) true H)
  else
    (r100_j0 app a0 a1 (a1.size : Int) (strEq a1 a0) H)
/- 71 internal/stringslite.Cut -/
def ret71 : ByteArray × ByteArray × Bool → AV := fun r => .tup [.str r.1, .str r.2.1, .bool r.2.2]
noncomputable def r71 (app : App) (a0 : ByteArray) (a1 : ByteArray) (H : Hp) : Option ((ByteArray × ByteArray × Bool) × Hp) :=
  (r100 app a0 a1 H).bind fun p1 =>
  if 0 ≤ p1.1 then
    (ck ((0 : Int) ≤ 0 ∧ 0 ≤ p1.1 ∧ p1.1 ≤ (a0.size : Int)) (
    ck ((0 : Int) ≤ (w64 (p1.1 + (a1.size : Int))) ∧ (w64 (p1.1 + (a1.size : Int))) ≤ (a0.size : Int) ∧ (a0.size : Int) ≤ (a0.size : Int)) (
    some ((a0.extract (0 : Int).toNat (p1.1 : Int).toNat, a0.extract (w64 (p1.1 + (a1.size : Int)) : Int).toNat ((a0.size : Int) : Int).toNat, true), p1.2))))
  else
    (some ((a0, (ByteArray.mk #[]), false), p1.2))
/- 42 strings.Cut -/
def ret42 : ByteArray × ByteArray × Bool → AV := fun r => .tup [.str r.1, .str r.2.1, .bool r.2.2]
noncomputable def r42 (app : App) (a0 : ByteArray) (a1 : ByteArray) (H : Hp) : Option ((ByteArray × ByteArray × Bool) × Hp) :=
  (r71 app a0 a1 H).bind fun p1 =>
  some ((p1.1.1, p1.1.2.1, p1.1.2.2), p1.2)
/- 72 slices.Clone[[]congou/chest.leaf,congou/chest.leaf] -/
def ret72 : Sl → AV := fun r => .sl r
noncomputable def r72 (a0 : Sl) (H : Hp) : Option (Sl × Hp) :=
  if a0.nil = true then
    (some (⟨true, 0, 0, 0, 0, 0⟩, H))
  else
    (((H.push (.cells [] false)).lds a0.b a0.o (a0.len * 2)).bind fun x2 =>
    ck (x2.all AV.one = true) (
    ((H.push (.cells [] false)).app 2 ⟨false, H.n, 0, 0, 0, 0⟩ x2 a0.len).bind fun x4 =>
    some (x4.1, x4.2)))
/- 73 slices.Clone[[]int,int] -/
def ret73 : Sl → AV := fun r => .sl r
noncomputable def r73 (a0 : Sl) (H : Hp) : Option (Sl × Hp) :=
  if a0.nil = true then
    (some (⟨true, 0, 0, 0, 0, 0⟩, H))
  else
    (((H.push (.cells [] false)).lds a0.b a0.o (a0.len * 1)).bind fun x2 =>
    ck (x2.all AV.one = true) (
    ((H.push (.cells [] false)).app 1 ⟨false, H.n, 0, 0, 0, 0⟩ x2 a0.len).bind fun x4 =>
    some (x4.1, x4.2)))
/- 74 slices.Clone[[][2]int,[2]int] -/
def ret74 : Sl → AV := fun r => .sl r
noncomputable def r74 (a0 : Sl) (H : Hp) : Option (Sl × Hp) :=
  if a0.nil = true then
    (some (⟨true, 0, 0, 0, 0, 0⟩, H))
  else
    (((H.push (.cells [] false)).lds a0.b a0.o (a0.len * 2)).bind fun x2 =>
    ck (x2.all AV.one = true) (
    ((H.push (.cells [] false)).app 2 ⟨false, H.n, 0, 0, 0, 0⟩ x2 a0.len).bind fun x4 =>
    some (x4.1, x4.2)))
/- 43 (*congou/chest.state).clone -/
def ret43 : Nat × Nat → AV := fun r => .ptr r.1 r.2
noncomputable def r43 (a0b : Nat) (a0o : Nat) (H : Hp) : Option ((Nat × Nat) × Hp) :=
  (H.ldSl a0b (a0o + 0)).bind fun x1 =>
  (r72 x1 H).bind fun p2 =>
  (p2.2.ldSl a0b (a0o + 1)).bind fun x3 =>
  (r73 x3 p2.2).bind fun p4 =>
  (p4.2.ldI .i64 a0b (a0o + 2)).bind fun x5 =>
  (p4.2.ldI .i64 a0b ((a0o + 2) + 1)).bind fun x6 =>
  (p4.2.ldI .i64 a0b ((a0o + 2) + 2)).bind fun x7 =>
  (p4.2.ldI .i64 a0b ((a0o + 2) + 3)).bind fun x8 =>
  (p4.2.ldSl a0b (a0o + 6)).bind fun x9 =>
  (r74 x9 p4.2).bind fun p10 =>
  ck (H.ldSl a0b (a0o + 1) = some x3) (
  ck (H.ldI .i64 a0b (a0o + 2) = some x5) (
  ck (H.ldI .i64 a0b ((a0o + 2) + 1) = some x6) (
  ck (H.ldI .i64 a0b ((a0o + 2) + 2) = some x7) (
  ck (H.ldI .i64 a0b ((a0o + 2) + 3) = some x8) (
  ck (H.ldSl a0b (a0o + 6) = some x9) (
  ck (p2.2.ldI .i64 a0b (a0o + 2) = some x5) (
  ck (p2.2.ldI .i64 a0b ((a0o + 2) + 1) = some x6) (
  ck (p2.2.ldI .i64 a0b ((a0o + 2) + 2) = some x7) (
  ck (p2.2.ldI .i64 a0b ((a0o + 2) + 3) = some x8) (
  ck (p2.2.ldSl a0b (a0o + 6) = some x9) (
  ck (p4.2.ldSl a0b (a0o + 1) = some x3) (
  ck (p10.2.ldSl a0b (a0o + 1) = some x3) (
  ck (p10.2.ldI .i64 a0b (a0o + 2) = some x5) (
  ck (p10.2.ldI .i64 a0b ((a0o + 2) + 1) = some x6) (
  ck (p10.2.ldI .i64 a0b ((a0o + 2) + 2) = some x7) (
  ck (p10.2.ldI .i64 a0b ((a0o + 2) + 3) = some x8) (
  ck (p10.2.ldSl a0b (a0o + 6) = some x9) (
  some ((p10.2.n, 0), (p10.2.push (.cells [.sl p2.1, .sl p4.1, .int .i64 x5, .int .i64 x6, .int .i64 x7, .int .i64 x8, .sl p10.1] false)))))))))))))))))))))
/- 218 unicode/utf8.RuneCountInString -/
def ret218 : Int → AV := fun r => .int .i64 r
noncomputable def r218_l0 : Nat → Int → Nat → Hp → Option (Int × Hp)
  | 0, _, _, _ => none
  | k_ + 1, v1, v2, H => (H.nxt v2).bind fun x1 =>
  if x1.1.isSome = true then
    (r218_l0 k_ (w64 (v1 + 1)) v2 x1.2)
  else
    (some (v1, x1.2))
noncomputable def r218 (a0 : ByteArray) (H : Hp) : Option (Int × Hp) :=
  lt (H.push (.iter a0 0)) fun H1 =>
  r218_l0 FUEL 0 H.n H1
/- 244 unicode/utf8.decodeRuneInStringSlow -/
def ret244 : Int × Int → AV := fun r => .tup [.int .i32 r.1, .int .i64 r.2]
noncomputable def r244 (a0 : ByteArray) (H : Hp) : Option ((Int × Int) × Hp) :=
  if (a0.size : Int) < 1 then
    (some ((65533, 0), H))
  else
    (ck ((0 : Int) ≤ 0 ∧ 0 < (a0.size : Int)) (
    none))
/- 219 unicode/utf8.DecodeRuneInString -/
def ret219 : Int × Int → AV := fun r => .tup [.int .i32 r.1, .int .i64 r.2]
noncomputable def r219_j0 (v1 : ByteArray) (v2 : Bool) (H : Hp) : Option ((Int × Int) × Hp) :=
  if v2 = true then
    (ck ((0 : Int) ≤ 0 ∧ 0 < (v1.size : Int)) (
    some ((IntKind.wrap .i32 (bt v1 0), 1), H)))
  else
    ((r244 v1 H).bind fun p3 =>
    some ((p3.1.1, p3.1.2), p3.2))
noncomputable def r219 (a0 : ByteArray) (H : Hp) : Option ((Int × Int) × Hp) :=
  if (strEq a0 (ByteArray.mk #[])) = true then
    (r219_j0 a0 false H)
  else
    (ck ((0 : Int) ≤ 0 ∧ 0 < (a0.size : Int)) (
    r219_j0 a0 (decide ((bt a0 0) < 128)) H))
/- 158 strings.explode -/
def ret158 : Sl → AV := fun r => .sl r
noncomputable def r158_l0 (app : App) : Nat → ByteArray → Int → Sl → Int → Hp → Option (Sl × Hp)
  | 0, _, _, _, _, _ => none
  | k_ + 1, v1, v2, v3, v4, H => if v4 < (w64 (v2 - 1)) then
    ((r219 v1 H).bind fun p2 =>
    ck ((0 : Int) ≤ 0 ∧ 0 ≤ p2.1.2 ∧ p2.1.2 ≤ (v1.size : Int)) (
    ck ((0 : Int) ≤ v4 ∧ v4 < (v3.len : Int)) (
    (p2.2.st v3.b (v3.o + (v4 : Int).toNat * 1) (.str (v1.extract (0 : Int).toNat (p2.1.2 : Int).toNat))).bind fun H5 =>
    ck ((0 : Int) ≤ p2.1.2 ∧ p2.1.2 ≤ (v1.size : Int) ∧ (v1.size : Int) ≤ (v1.size : Int)) (
    r158_l0 app k_ (v1.extract (p2.1.2 : Int).toNat ((v1.size : Int) : Int).toNat) v2 v3 (w64 (v4 + 1)) H5))))
  else
    (if 0 < v2 then
      (ck ((0 : Int) ≤ (w64 (v2 - 1)) ∧ (w64 (v2 - 1)) < (v3.len : Int)) (
      (H.st v3.b (v3.o + (w64 (v2 - 1) : Int).toNat * 1) (.str v1)).bind fun H9 =>
      some (v3, H9)))
    else
      (some (v3, H)))
noncomputable def r158_j2 (app : App) (v1 : ByteArray) (v2 : Int) (H : Hp) : Option (Sl × Hp) :=
  ck ((0 : Int) ≤ v2 ∧ v2 ≤ v2 ∧ v2 ≤ 4294967296) (
  lt (H.push (.cells (zerosA [.str (ByteArray.mk #[])] ((v2 : Int).toNat * 1)) false)) fun H2 =>
  r158_l0 app FUEL v1 v2 ⟨false, H.n, 0, (v2 : Int).toNat, (v2 : Int).toNat, 0⟩ 0 H2)
noncomputable def r158_j1 (app : App) (v1 : ByteArray) (v2 : Int) (v3 : Int) (v4 : Bool) (H : Hp) : Option (Sl × Hp) :=
  if v4 = true then
    (r158_j2 app v1 v3 H)
  else
    (r158_j2 app v1 v2 H)
noncomputable def r158 (app : App) (a0 : ByteArray) (a1 : Int) (H : Hp) : Option (Sl × Hp) :=
  (app 218 [.str a0] H).bind fun p1 =>
  (p1.1.asI .i64).bind fun x2 =>
  if a1 < 0 then
    (r158_j1 app a0 a1 x2 true p1.2)
  else
    (r158_j1 app a0 a1 x2 (decide (x2 < a1)) p1.2)
/- 160 strings.Index -/
def ret160 : Int → AV := fun r => .int .i64 r
noncomputable def r160 (app : App) (a0 : ByteArray) (a1 : ByteArray) (H : Hp) : Option (Int × Hp) :=
  (r100 app a0 a1 H).bind fun p1 =>
  some (p1.1, p1.2)
/- 159 strings.Count -/
def ret159 : Int → AV := fun r => .int .i64 r
noncomputable def r159_l0 (app : App) : Nat → ByteArray → ByteArray → Int → Hp → Option (Int × Hp)
  | 0, _, _, _, _ => none
  | k_ + 1, v1, v2, v3, H => (r160 app v1 v2 H).bind fun p1 =>
  if p1.1 = (-1) then
    (some (v3, p1.2))
  else
    (ck ((0 : Int) ≤ (w64 (p1.1 + (v2.size : Int))) ∧ (w64 (p1.1 + (v2.size : Int))) ≤ (v1.size : Int) ∧ (v1.size : Int) ≤ (v1.size : Int)) (
    r159_l0 app k_ (v1.extract (w64 (p1.1 + (v2.size : Int)) : Int).toNat ((v1.size : Int) : Int).toNat) v2 (w64 (v3 + 1)) p1.2))
noncomputable def r159 (app : App) (a0 : ByteArray) (a1 : ByteArray) (H : Hp) : Option (Int × Hp) :=
  if (a1.size : Int) = 0 then
    ((app 218 [.str a0] H).bind fun p2 =>
    (p2.1.asI .i64).bind fun x3 =>
    some (w64 (x3 + 1), p2.2))
  else
    (if (a1.size : Int) = 1 then
      (ck ((0 : Int) ≤ 0 ∧ 0 < (a1.size : Int)) (
      some (strCnt a0 (bt a1 0), H)))
    else
      (r159_l0 app FUEL a0 a1 0 H))
/- 107 strings.genSplit -/
def ret107 : Sl → AV := fun r => .sl r
noncomputable def r107_j2 (app : App) (v1 : ByteArray) (v2 : Sl) (v3 : Int) (H : Hp) : Option (Sl × Hp) :=
  ck ((0 : Int) ≤ v3 ∧ v3 < (v2.len : Int)) (
  (H.st v2.b (v2.o + (v3 : Int).toNat * 1) (.str v1)).bind fun H2 =>
  ck (((0 : Int) ≤ 0 ∧ 0 ≤ (w64 (v3 + 1)) ∧ (w64 (v3 + 1)) ≤ (v2.cap : Int)) ∧ (v2.opn = 0 ∨ v2.opn = 1)) (
  some (v2.cut 1 (0 : Int).toNat (w64 (v3 + 1) : Int).toNat, H2)))
noncomputable def r107_l0 (app : App) : Nat → ByteArray → ByteArray → Int → Int → Sl → Int → Hp → Option (Sl × Hp)
  | 0, _, _, _, _, _, _, _ => none
  | k_ + 1, v1, v2, v3, v4, v5, v6, H => if v6 < v4 then
    ((r160 app v1 v2 H).bind fun p2 =>
    if p2.1 < 0 then
      (r107_j2 app v1 v5 v6 p2.2)
    else
      (ck ((0 : Int) ≤ 0 ∧ 0 ≤ (w64 (p2.1 + v3)) ∧ (w64 (p2.1 + v3)) ≤ (v1.size : Int)) (
      ck ((0 : Int) ≤ v6 ∧ v6 < (v5.len : Int)) (
      (p2.2.st v5.b (v5.o + (v6 : Int).toNat * 1) (.str (v1.extract (0 : Int).toNat (w64 (p2.1 + v3) : Int).toNat))).bind fun H6 =>
      ck ((0 : Int) ≤ (w64 (p2.1 + (v2.size : Int))) ∧ (w64 (p2.1 + (v2.size : Int))) ≤ (v1.size : Int) ∧ (v1.size : Int) ≤ (v1.size : Int)) (
      r107_l0 app k_ (v1.extract (w64 (p2.1 + (v2.size : Int)) : Int).toNat ((v1.size : Int) : Int).toNat) v2 v3 v4 v5 (w64 (v6 + 1)) H6)))))
  else
    (r107_j2 app v1 v5 v6 H)
noncomputable def r107_j1 (app : App) (v1 : ByteArray) (v2 : ByteArray) (v3 : Int) (v4 : Int) (H : Hp) : Option (Sl × Hp) :=
  ck ((0 : Int) ≤ (if (w64 ((v1.size : Int) + 1)) < v4 then (w64 ((v1.size : Int) + 1)) else v4) ∧ (if (w64 ((v1.size : Int) + 1)) < v4 then (w64 ((v1.size : Int) + 1)) else v4) ≤ (if (w64 ((v1.size : Int) + 1)) < v4 then (w64 ((v1.size : Int) + 1)) else v4) ∧ (if (w64 ((v1.size : Int) + 1)) < v4 then (w64 ((v1.size : Int) + 1)) else v4) ≤ 4294967296) (
  lt (H.push (.cells (zerosA [.str (ByteArray.mk #[])] (((if (w64 ((v1.size : Int) + 1)) < v4 then (w64 ((v1.size : Int) + 1)) else v4) : Int).toNat * 1)) false)) fun H2 =>
  r107_l0 app FUEL v1 v2 v3 (w64 ((if (w64 ((v1.size : Int) + 1)) < v4 then (w64 ((v1.size : Int) + 1)) else v4) - 1)) ⟨false, H.n, 0, ((if (w64 ((v1.size : Int) + 1)) < v4 then (w64 ((v1.size : Int) + 1)) else v4) : Int).toNat, ((if (w64 ((v1.size : Int) + 1)) < v4 then (w64 ((v1.size : Int) + 1)) else v4) : Int).toNat, 0⟩ 0 H2)
noncomputable def r107 (app : App) (a0 : ByteArray) (a1 : ByteArray) (a2 : Int) (a3 : Int) (H : Hp) : Option (Sl × Hp) :=
  if a3 = 0 then
    (some (⟨true, 0, 0, 0, 0, 0⟩, H))
  else
    (if (strEq a1 (ByteArray.mk #[])) = true then
      ((app 158 [.str a0, .int .i64 a3] H).bind fun p3 =>
      (p3.1.asSl).bind fun x4 =>
      some (x4, p3.2))
    else
      (if a3 < 0 then
        ((r159 app a0 a1 H).bind fun p6 =>
        r107_j1 app a0 a1 a2 (w64 (p6.1 + 1)) p6.2)
      else
        (r107_j1 app a0 a1 a2 a3 H)))
/- 79 strings.Split -/
def ret79 : Sl → AV := fun r => .sl r
noncomputable def r79 (app : App) (a0 : ByteArray) (a1 : ByteArray) (H : Hp) : Option (Sl × Hp) :=
  (r107 app a0 a1 0 (-1) H).bind fun p1 =>
  some (p1.1, p1.2)
/- 161 slices.Index[[]string,string] -/
def ret161 : Int → AV := fun r => .int .i64 r
noncomputable def r161_l0 : Nat → Sl → ByteArray → Int → Int → Hp → Option (Int × Hp)
  | 0, _, _, _, _, _ => none
  | k_ + 1, v1, v2, v3, v4, H => if v4 < v3 then
    (ck ((0 : Int) ≤ v4 ∧ v4 < (v1.len : Int)) (
    (H.ldStr v1.b (v1.o + (v4 : Int).toNat * 1)).bind fun x3 =>
    if (strEq v2 x3) = true then
      (some (v4, H))
    else
      (r161_l0 k_ v1 v2 v3 (w64 (v4 + 1)) H)))
  else
    (some ((-1), H))
noncomputable def r161 (a0 : Sl) (a1 : ByteArray) (H : Hp) : Option (Int × Hp) :=
  r161_l0 FUEL a0 a1 (a0.len : Int) 0 H
/- 108 slices.Contains[[]string,string] -/
def ret108 : Bool → AV := fun r => .bool r
noncomputable def r108 (a0 : Sl) (a1 : ByteArray) (H : Hp) : Option (Bool × Hp) :=
  (r161 a0 a1 H).bind fun p1 =>
  some ((decide (0 ≤ p1.1)), p1.2)
/- 162 slices.IndexFunc[[]byte,byte] -/
def ret162 : Int → AV := fun r => .int .i64 r
noncomputable def r162_l0 (app : App) : Nat → Sl → AV → Int → Int → Hp → Option (Int × Hp)
  | 0, _, _, _, _, _ => none
  | k_ + 1, v1, v2, v3, v4, H => if v4 < v3 then
    (ck ((0 : Int) ≤ v4 ∧ v4 < (v1.len : Int)) (
    (H.ldI .u8 v1.b (v1.o + (v4 : Int).toNat * 1)).bind fun x3 =>
    (callv app v2 [.int .u8 x3] H).bind fun p4 =>
    (p4.1.asB).bind fun x5 =>
    if x5 = true then
      (some (v4, p4.2))
    else
      (r162_l0 app k_ v1 v2 v3 (w64 (v4 + 1)) p4.2)))
  else
    (some ((-1), H))
noncomputable def r162 (app : App) (a0 : Sl) (a1 : AV) (H : Hp) : Option (Int × Hp) :=
  r162_l0 app FUEL a0 a1 (a0.len : Int) 0 H
/- 109 slices.ContainsFunc[[]byte,byte] -/
def ret109 : Bool → AV := fun r => .bool r
noncomputable def r109 (app : App) (a0 : Sl) (a1 : AV) (H : Hp) : Option (Bool × Hp) :=
  (r162 app a0 a1 H).bind fun p1 =>
  some ((decide (0 ≤ p1.1)), p1.2)
/- 110 congou/chest.isLine$1 -/
def ret110 : Bool → AV := fun r => .bool r
noncomputable def r110 (a0 : Int) (H : Hp) : Option (Bool × Hp) :=
  if a0 < 32 then
    (some (true, H))
  else
    (some ((decide (126 < a0)), H))
/- 80 congou/chest.isLine -/
def ret80 : Bool → AV := fun r => .bool r
noncomputable def r80 (app : App) (a0 : ByteArray) (H : Hp) : Option (Bool × Hp) :=
  if (a0.size : Int) ≤ 60 then
    ((r79 app a0 (ByteArray.mk #[32]) H).bind fun p2 =>
    (r108 p2.1 (ByteArray.mk #[]) p2.2).bind fun p3 =>
    if p3.1 = true then
      (some (false, p3.2))
    else
      ((r109 app ⟨false, p3.2.n, 0, a0.size, a0.size, 1⟩ (.fn 110 [] []) (p3.2.push (.cells (bytesAV a0) false))).bind fun p5 =>
      some ((!p5.1), p5.2)))
  else
    (some (false, H))
/- 81 congou/chest.isName -/
def ret81 : Bool → AV := fun r => .bool r
noncomputable def r81_j1 (kt0 : ByteArray → Nat → Hp → Option (Bool × Hp)) (v1 : ByteArray) (v2 : Nat) (v3 : Bool) (H : Hp) : Option (Bool × Hp) :=
  if v3 = true then
    (some (false, H))
  else
    (kt0 v1 v2 H)
noncomputable def r81_l0 : Nat → ByteArray → Nat → Hp → Option (Bool × Hp)
  | 0, _, _, _ => none
  | k_ + 1, v1, v2, H => (H.nxt v2).bind fun x1 =>
  if x1.1.isSome = true then
    ((x1.1).bind fun x3 =>
    if x3.2 < 97 then
      (r81_j1 (fun v1_ v2_ H_ => r81_l0 k_ v1_ v2_ H_) v1 v2 true x1.2)
    else
      (r81_j1 (fun v1_ v2_ H_ => r81_l0 k_ v1_ v2_ H_) v1 v2 (decide (122 < x3.2)) x1.2))
  else
    (if (strEq v1 (ByteArray.mk #[])) = true then
      (some (false, x1.2))
    else
      (some ((decide ((v1.size : Int) ≤ 8)), x1.2)))
noncomputable def r81 (a0 : ByteArray) (H : Hp) : Option (Bool × Hp) :=
  lt (H.push (.iter a0 0)) fun H1 =>
  r81_l0 FUEL a0 H.n H1
/- 165 internal/strconv.small -/
def ret165 : ByteArray → AV := fun r => .str r
noncomputable def r165 (a0 : Int) (H : Hp) : Option (ByteArray × Hp) :=
  if a0 < 10 then
    (ck ((0 : Int) ≤ a0 ∧ a0 ≤ (w64 (a0 + 1)) ∧ (w64 (a0 + 1)) ≤ ((ByteArray.mk #[48, 49, 50, 51, 52, 53, 54, 55, 56, 57, 97, 98, 99, 100, 101, 102, 103, 104, 105, 106, 107, 108, 109, 110, 111, 112, 113, 114, 115, 116, 117, 118, 119, 120, 121, 122]).size : Int)) (
    some ((ByteArray.mk #[48, 49, 50, 51, 52, 53, 54, 55, 56, 57, 97, 98, 99, 100, 101, 102, 103, 104, 105, 106, 107, 108, 109, 110, 111, 112, 113, 114, 115, 116, 117, 118, 119, 120, 121, 122]).extract (a0 : Int).toNat (w64 (a0 + 1) : Int).toNat, H)))
  else
    (ck ((0 : Int) ≤ (w64 (a0 * 2)) ∧ (w64 (a0 * 2)) ≤ (w64 ((w64 (a0 * 2)) + 2)) ∧ (w64 ((w64 (a0 * 2)) + 2)) ≤ ((strC Tryz.f165 [1, 1, 0] 5 0).size : Int)) (
    some ((strC Tryz.f165 [1, 1, 0] 5 0).extract (w64 (a0 * 2) : Int).toNat (w64 ((w64 (a0 * 2)) + 2) : Int).toNat, H)))
/- 226 internal/strconv.log10Pow2 -/
def ret226 : Int → AV := fun r => .int .i64 r
noncomputable def r226 (a0 : Int) (H : Hp) : Option (Int × Hp) :=
  some (shrOf .i64 (w64 (a0 * 78913)) 18, H)
/- 227 math/bits.Len64 -/
def ret227 : Int → AV := fun r => .int .i64 r
noncomputable def r227_j0 (v1 : Int) (v2 : Int) (H : Hp) : Option (Int × Hp) :=
  ck ((0 : Int) ≤ (IntKind.wrap .u8 (v1)) ∧ (IntKind.wrap .u8 (v1)) < ((strC Tryz.f227 [1, 1, 1, 1, 0] 3 0).size : Int)) (
  some (w64 (v2 + (w64 (bt (strC Tryz.f227 [1, 1, 1, 1, 0] 3 0) (IntKind.wrap .u8 (v1))))), H))
noncomputable def r227_j1 (v1 : Int) (v2 : Int) (H : Hp) : Option (Int × Hp) :=
  if 256 ≤ v1 then
    (r227_j0 (shrOf .u64 v1 8) (w64 (v2 + 8)) H)
  else
    (r227_j0 v1 v2 H)
noncomputable def r227_j2 (v1 : Int) (v2 : Int) (H : Hp) : Option (Int × Hp) :=
  if 65536 ≤ v1 then
    (r227_j1 (shrOf .u64 v1 16) (w64 (v2 + 16)) H)
  else
    (r227_j1 v1 v2 H)
noncomputable def r227 (a0 : Int) (H : Hp) : Option (Int × Hp) :=
  if 4294967296 ≤ a0 then
    (r227_j2 (shrOf .u64 a0 32) 32 H)
  else
    (r227_j2 a0 0 H)
/- 228 internal/strconv.bool2[int] -/
def ret228 : Int → AV := fun r => .int .i64 r
noncomputable def r228 (a0 : Bool) (H : Hp) : Option (Int × Hp) :=
  if a0 = true then
    (some (1, H))
  else
    (some (0, H))
/- 166 internal/strconv.numDigits -/
def ret166 : Int → AV := fun r => .int .i64 r
noncomputable def r166 (a0 : Int) (H : Hp) : Option (Int × Hp) :=
  (r227 a0 H).bind fun p1 =>
  (r226 p1.1 p1.2).bind fun p2 =>
  none
/- 167 internal/strconv.formatBase10 -/
def ret167 : Unit → AV := fun _ => .tup []
noncomputable def r167_j1 (v1 : Sl) (v2 : Int) (v3 : Int) (H : Hp) : Option (Unit × Hp) :=
  if 0 < v2 then
    (ck ((0 : Int) ≤ 0 ∧ 0 < (v1.len : Int)) (
    (H.st v1.b (v1.o + (0 : Int).toNat * 1) (.int .u8 (IntKind.wrap .u8 (IntKind.wrap .u32 (48 + v3))))).bind fun H3 =>
    some ((), H3)))
  else
    (some ((), H))
noncomputable def r167_j2 (v1 : Sl) (v2 : Int) (v3 : Int) (H : Hp) : Option (Unit × Hp) :=
  if 2 ≤ v2 then
    (ck ((0 : Int) ≤ (IntKind.wrap .u32 ((IntKind.wrap .u32 ((Int.tmod v3 100) * 2)) + 1)) ∧ (IntKind.wrap .u32 ((IntKind.wrap .u32 ((Int.tmod v3 100) * 2)) + 1)) < ((strC Tryz.f167 [1, 1, 1, 1, 0, 1, 0, 1, 1, 0] 8 0).size : Int)) (
    ck ((0 : Int) ≤ (IntKind.wrap .u32 ((Int.tmod v3 100) * 2)) ∧ (IntKind.wrap .u32 ((Int.tmod v3 100) * 2)) < ((strC Tryz.f167 [1, 1, 1, 1, 0, 1, 0, 1, 1, 0] 10 0).size : Int)) (
    ck ((0 : Int) ≤ (w64 (v2 - 1)) ∧ (w64 (v2 - 1)) < (v1.len : Int)) (
    (H.st v1.b (v1.o + (w64 (v2 - 1) : Int).toNat * 1) (.int .u8 (bt (strC Tryz.f167 [1, 1, 1, 1, 0, 1, 0, 1, 1, 0] 8 0) (IntKind.wrap .u32 ((IntKind.wrap .u32 ((Int.tmod v3 100) * 2)) + 1))))).bind fun H5 =>
    ck ((0 : Int) ≤ (w64 (v2 - 2)) ∧ (w64 (v2 - 2)) < (v1.len : Int)) (
    (H5.st v1.b (v1.o + (w64 (v2 - 2) : Int).toNat * 1) (.int .u8 (bt (strC Tryz.f167 [1, 1, 1, 1, 0, 1, 0, 1, 1, 0] 10 0) (IntKind.wrap .u32 ((Int.tmod v3 100) * 2))))).bind fun H7 =>
    r167_j1 v1 (w64 (v2 - 2)) (IntKind.wrap .u32 (Int.tdiv v3 100)) H7)))))
  else
    (r167_j1 v1 v2 v3 H)
noncomputable def r167_l0 : Nat → Sl → Int → Int → Hp → Option (Unit × Hp)
  | 0, _, _, _, _ => none
  | k_ + 1, v1, v2, v3, H => if 8 ≤ v3 then
    (ck ((0 : Int) ≤ (IntKind.wrap .u32 ((IntKind.wrap .u32 ((Int.tmod (Int.tmod (IntKind.wrap .u32 (Int.tmod v2 100000000)) 10000) 100) * 2)) + 1)) ∧ (IntKind.wrap .u32 ((IntKind.wrap .u32 ((Int.tmod (Int.tmod (IntKind.wrap .u32 (Int.tmod v2 100000000)) 10000) 100) * 2)) + 1)) < ((strC Tryz.f167 [1, 0, 0, 0, 1, 0, 1, 1, 1, 1, 1, 0] 8 0).size : Int)) (
    ck ((0 : Int) ≤ (IntKind.wrap .u32 ((Int.tmod (Int.tmod (IntKind.wrap .u32 (Int.tmod v2 100000000)) 10000) 100) * 2)) ∧ (IntKind.wrap .u32 ((Int.tmod (Int.tmod (IntKind.wrap .u32 (Int.tmod v2 100000000)) 10000) 100) * 2)) < ((strC Tryz.f167 [1, 0, 0, 0, 1, 0, 1, 1, 1, 1, 1, 0] 10 0).size : Int)) (
    ck ((0 : Int) ≤ (w64 (v3 - 1)) ∧ (w64 (v3 - 1)) < (v1.len : Int)) (
    (H.st v1.b (v1.o + (w64 (v3 - 1) : Int).toNat * 1) (.int .u8 (bt (strC Tryz.f167 [1, 0, 0, 0, 1, 0, 1, 1, 1, 1, 1, 0] 8 0) (IntKind.wrap .u32 ((IntKind.wrap .u32 ((Int.tmod (Int.tmod (IntKind.wrap .u32 (Int.tmod v2 100000000)) 10000) 100) * 2)) + 1))))).bind fun H5 =>
    ck ((0 : Int) ≤ (w64 (v3 - 2)) ∧ (w64 (v3 - 2)) < (v1.len : Int)) (
    (H5.st v1.b (v1.o + (w64 (v3 - 2) : Int).toNat * 1) (.int .u8 (bt (strC Tryz.f167 [1, 0, 0, 0, 1, 0, 1, 1, 1, 1, 1, 0] 10 0) (IntKind.wrap .u32 ((Int.tmod (Int.tmod (IntKind.wrap .u32 (Int.tmod v2 100000000)) 10000) 100) * 2))))).bind fun H7 =>
    ck ((0 : Int) ≤ (IntKind.wrap .u32 ((IntKind.wrap .u32 ((IntKind.wrap .u32 (Int.tdiv (Int.tmod (IntKind.wrap .u32 (Int.tmod v2 100000000)) 10000) 100)) * 2)) + 1)) ∧ (IntKind.wrap .u32 ((IntKind.wrap .u32 ((IntKind.wrap .u32 (Int.tdiv (Int.tmod (IntKind.wrap .u32 (Int.tmod v2 100000000)) 10000) 100)) * 2)) + 1)) < ((strC Tryz.f167 [1, 0, 0, 0, 1, 0, 1, 1, 1, 1, 1, 1, 0] 8 0).size : Int)) (
    ck ((0 : Int) ≤ (IntKind.wrap .u32 ((IntKind.wrap .u32 (Int.tdiv (Int.tmod (IntKind.wrap .u32 (Int.tmod v2 100000000)) 10000) 100)) * 2)) ∧ (IntKind.wrap .u32 ((IntKind.wrap .u32 (Int.tdiv (Int.tmod (IntKind.wrap .u32 (Int.tmod v2 100000000)) 10000) 100)) * 2)) < ((strC Tryz.f167 [1, 0, 0, 0, 1, 0, 1, 1, 1, 1, 1, 1, 0] 10 0).size : Int)) (
    ck ((0 : Int) ≤ (w64 (v3 - 3)) ∧ (w64 (v3 - 3)) < (v1.len : Int)) (
    (H7.st v1.b (v1.o + (w64 (v3 - 3) : Int).toNat * 1) (.int .u8 (bt (strC Tryz.f167 [1, 0, 0, 0, 1, 0, 1, 1, 1, 1, 1, 1, 0] 8 0) (IntKind.wrap .u32 ((IntKind.wrap .u32 ((IntKind.wrap .u32 (Int.tdiv (Int.tmod (IntKind.wrap .u32 (Int.tmod v2 100000000)) 10000) 100)) * 2)) + 1))))).bind fun H11 =>
    ck ((0 : Int) ≤ (w64 (v3 - 4)) ∧ (w64 (v3 - 4)) < (v1.len : Int)) (
    (H11.st v1.b (v1.o + (w64 (v3 - 4) : Int).toNat * 1) (.int .u8 (bt (strC Tryz.f167 [1, 0, 0, 0, 1, 0, 1, 1, 1, 1, 1, 1, 0] 10 0) (IntKind.wrap .u32 ((IntKind.wrap .u32 (Int.tdiv (Int.tmod (IntKind.wrap .u32 (Int.tmod v2 100000000)) 10000) 100)) * 2))))).bind fun H13 =>
    ck ((0 : Int) ≤ (IntKind.wrap .u32 ((IntKind.wrap .u32 ((Int.tmod (IntKind.wrap .u32 (Int.tdiv (IntKind.wrap .u32 (Int.tmod v2 100000000)) 10000)) 100) * 2)) + 1)) ∧ (IntKind.wrap .u32 ((IntKind.wrap .u32 ((Int.tmod (IntKind.wrap .u32 (Int.tdiv (IntKind.wrap .u32 (Int.tmod v2 100000000)) 10000)) 100) * 2)) + 1)) < ((strC Tryz.f167 [1, 0, 0, 0, 1, 0, 1, 1, 1, 1, 1, 1, 1, 0] 8 0).size : Int)) (
    ck ((0 : Int) ≤ (IntKind.wrap .u32 ((Int.tmod (IntKind.wrap .u32 (Int.tdiv (IntKind.wrap .u32 (Int.tmod v2 100000000)) 10000)) 100) * 2)) ∧ (IntKind.wrap .u32 ((Int.tmod (IntKind.wrap .u32 (Int.tdiv (IntKind.wrap .u32 (Int.tmod v2 100000000)) 10000)) 100) * 2)) < ((strC Tryz.f167 [1, 0, 0, 0, 1, 0, 1, 1, 1, 1, 1, 1, 1, 0] 10 0).size : Int)) (
    ck ((0 : Int) ≤ (w64 (v3 - 5)) ∧ (w64 (v3 - 5)) < (v1.len : Int)) (
    (H13.st v1.b (v1.o + (w64 (v3 - 5) : Int).toNat * 1) (.int .u8 (bt (strC Tryz.f167 [1, 0, 0, 0, 1, 0, 1, 1, 1, 1, 1, 1, 1, 0] 8 0) (IntKind.wrap .u32 ((IntKind.wrap .u32 ((Int.tmod (IntKind.wrap .u32 (Int.tdiv (IntKind.wrap .u32 (Int.tmod v2 100000000)) 10000)) 100) * 2)) + 1))))).bind fun H17 =>
    ck ((0 : Int) ≤ (w64 (v3 - 6)) ∧ (w64 (v3 - 6)) < (v1.len : Int)) (
    (H17.st v1.b (v1.o + (w64 (v3 - 6) : Int).toNat * 1) (.int .u8 (bt (strC Tryz.f167 [1, 0, 0, 0, 1, 0, 1, 1, 1, 1, 1, 1, 1, 0] 10 0) (IntKind.wrap .u32 ((Int.tmod (IntKind.wrap .u32 (Int.tdiv (IntKind.wrap .u32 (Int.tmod v2 100000000)) 10000)) 100) * 2))))).bind fun H19 =>
    ck ((0 : Int) ≤ (IntKind.wrap .u32 ((IntKind.wrap .u32 ((IntKind.wrap .u32 (Int.tdiv (IntKind.wrap .u32 (Int.tdiv (IntKind.wrap .u32 (Int.tmod v2 100000000)) 10000)) 100)) * 2)) + 1)) ∧ (IntKind.wrap .u32 ((IntKind.wrap .u32 ((IntKind.wrap .u32 (Int.tdiv (IntKind.wrap .u32 (Int.tdiv (IntKind.wrap .u32 (Int.tmod v2 100000000)) 10000)) 100)) * 2)) + 1)) < ((strC Tryz.f167 [1, 0, 0, 0, 1, 0, 1, 1, 1, 1, 1, 1, 1, 1, 0] 8 0).size : Int)) (
    ck ((0 : Int) ≤ (IntKind.wrap .u32 ((IntKind.wrap .u32 (Int.tdiv (IntKind.wrap .u32 (Int.tdiv (IntKind.wrap .u32 (Int.tmod v2 100000000)) 10000)) 100)) * 2)) ∧ (IntKind.wrap .u32 ((IntKind.wrap .u32 (Int.tdiv (IntKind.wrap .u32 (Int.tdiv (IntKind.wrap .u32 (Int.tmod v2 100000000)) 10000)) 100)) * 2)) < ((strC Tryz.f167 [1, 0, 0, 0, 1, 0, 1, 1, 1, 1, 1, 1, 1, 1, 0] 10 0).size : Int)) (
    ck ((0 : Int) ≤ (w64 (v3 - 7)) ∧ (w64 (v3 - 7)) < (v1.len : Int)) (
    (H19.st v1.b (v1.o + (w64 (v3 - 7) : Int).toNat * 1) (.int .u8 (bt (strC Tryz.f167 [1, 0, 0, 0, 1, 0, 1, 1, 1, 1, 1, 1, 1, 1, 0] 8 0) (IntKind.wrap .u32 ((IntKind.wrap .u32 ((IntKind.wrap .u32 (Int.tdiv (IntKind.wrap .u32 (Int.tdiv (IntKind.wrap .u32 (Int.tmod v2 100000000)) 10000)) 100)) * 2)) + 1))))).bind fun H23 =>
    ck ((0 : Int) ≤ (w64 (v3 - 8)) ∧ (w64 (v3 - 8)) < (v1.len : Int)) (
    (H23.st v1.b (v1.o + (w64 (v3 - 8) : Int).toNat * 1) (.int .u8 (bt (strC Tryz.f167 [1, 0, 0, 0, 1, 0, 1, 1, 1, 1, 1, 1, 1, 1, 0] 10 0) (IntKind.wrap .u32 ((IntKind.wrap .u32 (Int.tdiv (IntKind.wrap .u32 (Int.tdiv (IntKind.wrap .u32 (Int.tmod v2 100000000)) 10000)) 100)) * 2))))).bind fun H25 =>
    r167_l0 k_ v1 (IntKind.wrap .u64 (Int.tdiv v2 100000000)) (w64 (v3 - 8)) H25)))))))))))))))))
  else
    (if 4 ≤ v3 then
      (ck ((0 : Int) ≤ (IntKind.wrap .u32 ((IntKind.wrap .u32 ((Int.tmod (Int.tmod (IntKind.wrap .u32 (v2)) 10000) 100) * 2)) + 1)) ∧ (IntKind.wrap .u32 ((IntKind.wrap .u32 ((Int.tmod (Int.tmod (IntKind.wrap .u32 (v2)) 10000) 100) * 2)) + 1)) < ((strC Tryz.f167 [1, 1, 1, 0, 1, 0, 1, 1, 1, 0] 8 0).size : Int)) (
      ck ((0 : Int) ≤ (IntKind.wrap .u32 ((Int.tmod (Int.tmod (IntKind.wrap .u32 (v2)) 10000) 100) * 2)) ∧ (IntKind.wrap .u32 ((Int.tmod (Int.tmod (IntKind.wrap .u32 (v2)) 10000) 100) * 2)) < ((strC Tryz.f167 [1, 1, 1, 0, 1, 0, 1, 1, 1, 0] 10 0).size : Int)) (
      ck ((0 : Int) ≤ (w64 (v3 - 1)) ∧ (w64 (v3 - 1)) < (v1.len : Int)) (
      (H.st v1.b (v1.o + (w64 (v3 - 1) : Int).toNat * 1) (.int .u8 (bt (strC Tryz.f167 [1, 1, 1, 0, 1, 0, 1, 1, 1, 0] 8 0) (IntKind.wrap .u32 ((IntKind.wrap .u32 ((Int.tmod (Int.tmod (IntKind.wrap .u32 (v2)) 10000) 100) * 2)) + 1))))).bind fun H30 =>
      ck ((0 : Int) ≤ (w64 (v3 - 2)) ∧ (w64 (v3 - 2)) < (v1.len : Int)) (
      (H30.st v1.b (v1.o + (w64 (v3 - 2) : Int).toNat * 1) (.int .u8 (bt (strC Tryz.f167 [1, 1, 1, 0, 1, 0, 1, 1, 1, 0] 10 0) (IntKind.wrap .u32 ((Int.tmod (Int.tmod (IntKind.wrap .u32 (v2)) 10000) 100) * 2))))).bind fun H32 =>
      ck ((0 : Int) ≤ (IntKind.wrap .u32 ((IntKind.wrap .u32 ((IntKind.wrap .u32 (Int.tdiv (Int.tmod (IntKind.wrap .u32 (v2)) 10000) 100)) * 2)) + 1)) ∧ (IntKind.wrap .u32 ((IntKind.wrap .u32 ((IntKind.wrap .u32 (Int.tdiv (Int.tmod (IntKind.wrap .u32 (v2)) 10000) 100)) * 2)) + 1)) < ((strC Tryz.f167 [1, 1, 1, 0, 1, 0, 1, 1, 1, 1, 0] 8 0).size : Int)) (
      ck ((0 : Int) ≤ (IntKind.wrap .u32 ((IntKind.wrap .u32 (Int.tdiv (Int.tmod (IntKind.wrap .u32 (v2)) 10000) 100)) * 2)) ∧ (IntKind.wrap .u32 ((IntKind.wrap .u32 (Int.tdiv (Int.tmod (IntKind.wrap .u32 (v2)) 10000) 100)) * 2)) < ((strC Tryz.f167 [1, 1, 1, 0, 1, 0, 1, 1, 1, 1, 0] 10 0).size : Int)) (
      ck ((0 : Int) ≤ (w64 (v3 - 3)) ∧ (w64 (v3 - 3)) < (v1.len : Int)) (
      (H32.st v1.b (v1.o + (w64 (v3 - 3) : Int).toNat * 1) (.int .u8 (bt (strC Tryz.f167 [1, 1, 1, 0, 1, 0, 1, 1, 1, 1, 0] 8 0) (IntKind.wrap .u32 ((IntKind.wrap .u32 ((IntKind.wrap .u32 (Int.tdiv (Int.tmod (IntKind.wrap .u32 (v2)) 10000) 100)) * 2)) + 1))))).bind fun H36 =>
      ck ((0 : Int) ≤ (w64 (v3 - 4)) ∧ (w64 (v3 - 4)) < (v1.len : Int)) (
      (H36.st v1.b (v1.o + (w64 (v3 - 4) : Int).toNat * 1) (.int .u8 (bt (strC Tryz.f167 [1, 1, 1, 0, 1, 0, 1, 1, 1, 1, 0] 10 0) (IntKind.wrap .u32 ((IntKind.wrap .u32 (Int.tdiv (Int.tmod (IntKind.wrap .u32 (v2)) 10000) 100)) * 2))))).bind fun H38 =>
      r167_j2 v1 (w64 (v3 - 4)) (IntKind.wrap .u32 (Int.tdiv (IntKind.wrap .u32 (v2)) 10000)) H38)))))))))
    else
      (r167_j2 v1 v3 (IntKind.wrap .u32 (v2)) H))
noncomputable def r167 (a0 : Sl) (a1 : Int) (H : Hp) : Option (Unit × Hp) :=
  r167_l0 FUEL a0 a1 (a0.len : Int) H
/- 229 internal/strconv.isPowerOfTwo -/
def ret229 : Bool → AV := fun r => .bool r
noncomputable def r229 (a0 : Int) (H : Hp) : Option (Bool × Hp) :=
  some ((decide ((bitsOf .and .i64 a0 (w64 (a0 - 1))) = 0)), H)
/- 248 math/bits.TrailingZeros32 -/
def ret248 : Int → AV := fun r => .int .i64 r
noncomputable def r248 (a0 : Int) (H : Hp) : Option (Int × Hp) :=
  if a0 = 0 then
    (some (32, H))
  else
    (none)
/- 249 math/bits.TrailingZeros64 -/
def ret249 : Int → AV := fun r => .int .i64 r
noncomputable def r249 (a0 : Int) (H : Hp) : Option (Int × Hp) :=
  if a0 = 0 then
    (some (64, H))
  else
    (none)
/- 230 math/bits.TrailingZeros -/
def ret230 : Int → AV := fun r => .int .i64 r
noncomputable def r230 (a0 : Int) (H : Hp) : Option (Int × Hp) :=
  (r249 a0 H).bind fun p1 =>
  some (p1.1, p1.2)
/- 168 internal/strconv.formatBits -/
def ret168 : Sl × ByteArray → AV := fun r => .tup [.sl r.1, .str r.2]
noncomputable def r168_j4 (v1 : Sl) (v2 : Bool) (v3 : Sl) (v4 : ByteArray) (v5 : Nat) (v6 : Int) (H : Hp) : Option ((Sl × ByteArray) × Hp) :=
  if v2 = true then
    (ck ((0 : Int) ≤ v6 ∧ v6 ≤ ((65 : Nat) : Int) ∧ ((65 : Nat) : Int) ≤ ((65 : Nat) : Int)) (
    (H.lds (⟨false, v5, 0 + (v6 : Int).toNat * 1, (((65 : Nat) : Int) : Int).toNat - (v6 : Int).toNat, 65 - (v6 : Int).toNat, 0⟩ : Sl).b (⟨false, v5, 0 + (v6 : Int).toNat * 1, (((65 : Nat) : Int) : Int).toNat - (v6 : Int).toNat, 65 - (v6 : Int).toNat, 0⟩ : Sl).o ((⟨false, v5, 0 + (v6 : Int).toNat * 1, (((65 : Nat) : Int) : Int).toNat - (v6 : Int).toNat, 65 - (v6 : Int).toNat, 0⟩ : Sl).len * 1)).bind fun x3 =>
    ck (x3.all AV.one = true) (
    (H.app 1 v1 x3 (⟨false, v5, 0 + (v6 : Int).toNat * 1, (((65 : Nat) : Int) : Int).toNat - (v6 : Int).toNat, 65 - (v6 : Int).toNat, 0⟩ : Sl).len).bind fun x5 =>
    some ((x5.1, v4), x5.2))))
  else
    (ck ((0 : Int) ≤ v6 ∧ v6 ≤ ((65 : Nat) : Int) ∧ ((65 : Nat) : Int) ≤ ((65 : Nat) : Int)) (
    none))
noncomputable def r168_j5 (v1 : Sl) (v2 : Bool) (v3 : Bool) (v4 : Sl) (v5 : ByteArray) (v6 : Nat) (v7 : Int) (H : Hp) : Option ((Sl × ByteArray) × Hp) :=
  if v2 = true then
    (ck ((0 : Int) ≤ (w64 (v7 - 1)) ∧ (w64 (v7 - 1)) < ((65 : Nat) : Int)) (
    (H.st v6 (0 + (w64 (v7 - 1) : Int).toNat * 1) (.int .u8 45)).bind fun H3 =>
    r168_j4 v1 v3 v4 v5 v6 (w64 (v7 - 1)) H3))
  else
    (r168_j4 v1 v3 v4 v5 v6 v7 H)
noncomputable def r168_l1 : Nat → Sl → Int → Bool → Bool → Sl → ByteArray → Nat → Int → Int → Int → Int → Hp → Option ((Sl × ByteArray) × Hp)
  | 0, _, _, _, _, _, _, _, _, _, _, _, _ => none
  | k_ + 1, v1, v2, v3, v4, v5, v6, v7, v8, v9, v10, v11, H => if v10 ≤ v2 then
    (ck ((0 : Int) ≤ (bitsOf .and .u64 v2 v11) ∧ (bitsOf .and .u64 v2 v11) < ((ByteArray.mk #[48, 49, 50, 51, 52, 53, 54, 55, 56, 57, 97, 98, 99, 100, 101, 102, 103, 104, 105, 106, 107, 108, 109, 110, 111, 112, 113, 114, 115, 116, 117, 118, 119, 120, 121, 122]).size : Int)) (
    ck ((0 : Int) ≤ (w64 (v8 - 1)) ∧ (w64 (v8 - 1)) < ((65 : Nat) : Int)) (
    (H.st v7 (0 + (w64 (v8 - 1) : Int).toNat * 1) (.int .u8 (bt (ByteArray.mk #[48, 49, 50, 51, 52, 53, 54, 55, 56, 57, 97, 98, 99, 100, 101, 102, 103, 104, 105, 106, 107, 108, 109, 110, 111, 112, 113, 114, 115, 116, 117, 118, 119, 120, 121, 122]) (bitsOf .and .u64 v2 v11)))).bind fun H4 =>
    ck (¬ v9 < 0) (
    r168_l1 k_ v1 (shrOf .u64 v2 v9) v3 v4 v5 v6 v7 (w64 (v8 - 1)) v9 v10 v11 H4))))
  else
    (ck ((0 : Int) ≤ v2 ∧ v2 < ((ByteArray.mk #[48, 49, 50, 51, 52, 53, 54, 55, 56, 57, 97, 98, 99, 100, 101, 102, 103, 104, 105, 106, 107, 108, 109, 110, 111, 112, 113, 114, 115, 116, 117, 118, 119, 120, 121, 122]).size : Int)) (
    ck ((0 : Int) ≤ (w64 (v8 - 1)) ∧ (w64 (v8 - 1)) < ((65 : Nat) : Int)) (
    (H.st v7 (0 + (w64 (v8 - 1) : Int).toNat * 1) (.int .u8 (bt (ByteArray.mk #[48, 49, 50, 51, 52, 53, 54, 55, 56, 57, 97, 98, 99, 100, 101, 102, 103, 104, 105, 106, 107, 108, 109, 110, 111, 112, 113, 114, 115, 116, 117, 118, 119, 120, 121, 122]) v2))).bind fun H8 =>
    r168_j5 v1 v3 v4 v5 v6 v7 (w64 (v8 - 1)) H8)))
noncomputable def r168_l2 : Nat → Sl → Int → Bool → Bool → Sl → ByteArray → Nat → Int → Int → Hp → Option ((Sl × ByteArray) × Hp)
  | 0, _, _, _, _, _, _, _, _, _, _ => none
  | k_ + 1, v1, v2, v3, v4, v5, v6, v7, v8, v9, H => if v9 ≤ v2 then
    (ck (v9 ≠ 0) (
    ck ((0 : Int) ≤ (IntKind.wrap .u64 (v2 - (IntKind.wrap .u64 ((IntKind.wrap .u64 (Int.tdiv v2 v9)) * v9)))) ∧ (IntKind.wrap .u64 (v2 - (IntKind.wrap .u64 ((IntKind.wrap .u64 (Int.tdiv v2 v9)) * v9)))) < ((ByteArray.mk #[48, 49, 50, 51, 52, 53, 54, 55, 56, 57, 97, 98, 99, 100, 101, 102, 103, 104, 105, 106, 107, 108, 109, 110, 111, 112, 113, 114, 115, 116, 117, 118, 119, 120, 121, 122]).size : Int)) (
    ck ((0 : Int) ≤ (w64 (v8 - 1)) ∧ (w64 (v8 - 1)) < ((65 : Nat) : Int)) (
    (H.st v7 (0 + (w64 (v8 - 1) : Int).toNat * 1) (.int .u8 (bt (ByteArray.mk #[48, 49, 50, 51, 52, 53, 54, 55, 56, 57, 97, 98, 99, 100, 101, 102, 103, 104, 105, 106, 107, 108, 109, 110, 111, 112, 113, 114, 115, 116, 117, 118, 119, 120, 121, 122]) (IntKind.wrap .u64 (v2 - (IntKind.wrap .u64 ((IntKind.wrap .u64 (Int.tdiv v2 v9)) * v9))))))).bind fun H5 =>
    r168_l2 k_ v1 (IntKind.wrap .u64 (Int.tdiv v2 v9)) v3 v4 v5 v6 v7 (w64 (v8 - 1)) v9 H5))))
  else
    (ck ((0 : Int) ≤ v2 ∧ v2 < ((ByteArray.mk #[48, 49, 50, 51, 52, 53, 54, 55, 56, 57, 97, 98, 99, 100, 101, 102, 103, 104, 105, 106, 107, 108, 109, 110, 111, 112, 113, 114, 115, 116, 117, 118, 119, 120, 121, 122]).size : Int)) (
    ck ((0 : Int) ≤ (w64 (v8 - 1)) ∧ (w64 (v8 - 1)) < ((65 : Nat) : Int)) (
    (H.st v7 (0 + (w64 (v8 - 1) : Int).toNat * 1) (.int .u8 (bt (ByteArray.mk #[48, 49, 50, 51, 52, 53, 54, 55, 56, 57, 97, 98, 99, 100, 101, 102, 103, 104, 105, 106, 107, 108, 109, 110, 111, 112, 113, 114, 115, 116, 117, 118, 119, 120, 121, 122]) v2))).bind fun H8 =>
    r168_j5 v1 v3 v4 v5 v6 v7 (w64 (v8 - 1)) H8)))
noncomputable def r168_j3 (v1 : Sl) (v2 : Int) (v3 : Int) (v4 : Bool) (v5 : Bool) (v6 : Sl) (v7 : ByteArray) (v8 : Nat) (v9 : Int) (H : Hp) : Option ((Sl × ByteArray) × Hp) :=
  (r229 v3 H).bind fun p1 =>
  if p1.1 = true then
    ((r230 (IntKind.wrap .u64 (v3)) p1.2).bind fun p3 =>
    r168_l1 FUEL v1 v2 v4 v5 v6 v7 v8 v9 (IntKind.wrap .u64 (p3.1)) (IntKind.wrap .u64 (v3)) (IntKind.wrap .u64 ((IntKind.wrap .u64 (v3)) - 1)) p3.2)
  else
    (r168_l2 FUEL v1 v2 v4 v5 v6 v7 v8 v9 (IntKind.wrap .u64 (v3)) p1.2)
noncomputable def r168_j0 (v1 : Sl) (v2 : Int) (v3 : Int) (v4 : Bool) (v5 : Bool) (v6 : Sl) (v7 : ByteArray) (v8 : Bool) (H : Hp) : Option ((Sl × ByteArray) × Hp) :=
  if v8 = true then
    (none)
  else
    (lt (H.push (.cells [.int .u8 0, .int .u8 0, .int .u8 0, .int .u8 0, .int .u8 0, .int .u8 0, .int .u8 0, .int .u8 0, .int .u8 0, .int .u8 0, .int .u8 0, .int .u8 0, .int .u8 0, .int .u8 0, .int .u8 0, .int .u8 0, .int .u8 0, .int .u8 0, .int .u8 0, .int .u8 0, .int .u8 0, .int .u8 0, .int .u8 0, .int .u8 0, .int .u8 0, .int .u8 0, .int .u8 0, .int .u8 0, .int .u8 0, .int .u8 0, .int .u8 0, .int .u8 0, .int .u8 0, .int .u8 0, .int .u8 0, .int .u8 0, .int .u8 0, .int .u8 0, .int .u8 0, .int .u8 0, .int .u8 0, .int .u8 0, .int .u8 0, .int .u8 0, .int .u8 0, .int .u8 0, .int .u8 0, .int .u8 0, .int .u8 0, .int .u8 0, .int .u8 0, .int .u8 0, .int .u8 0, .int .u8 0, .int .u8 0, .int .u8 0, .int .u8 0, .int .u8 0, .int .u8 0, .int .u8 0, .int .u8 0, .int .u8 0, .int .u8 0, .int .u8 0, .int .u8 0] false)) fun H2 =>
    if v4 = true then
      (r168_j3 v1 (IntKind.wrap .u64 (0 - v2)) v3 true v5 v6 v7 H.n 65 H2)
    else
      (r168_j3 v1 v2 v3 false v5 v6 v7 H.n 65 H2))
noncomputable def r168 (a0 : Sl) (a1 : Int) (a2 : Int) (a3 : Bool) (a4 : Bool) (H : Hp) : Option ((Sl × ByteArray) × Hp) :=
  if a2 < 2 then
    (r168_j0 a0 a1 a2 a3 a4 ⟨true, 0, 0, 0, 0, 0⟩ (ByteArray.mk #[]) true H)
  else
    (if a2 = 10 then
      (r168_j0 a0 a1 a2 a3 a4 ⟨true, 0, 0, 0, 0, 0⟩ (ByteArray.mk #[]) true H)
    else
      (r168_j0 a0 a1 a2 a3 a4 ⟨true, 0, 0, 0, 0, 0⟩ (ByteArray.mk #[]) (decide (36 < a2)) H))
/- 113 internal/strconv.FormatInt -/
def ret113 : ByteArray → AV := fun r => .str r
noncomputable def r113_j0 (app : App) (v1 : Int) (v2 : Nat) (v3 : Int) (H : Hp) : Option (ByteArray × Hp) :=
  (app 166 [.int .u64 v3] H).bind fun p1 =>
  (p1.1.asI .i64).bind fun x2 =>
  ck ((0 : Int) ≤ 1 ∧ 1 ≤ (w64 (1 + x2)) ∧ (w64 (1 + x2)) ≤ ((24 : Nat) : Int)) (
  (app 167 [.sl ⟨false, v2, 0 + (1 : Int).toNat * 1, (w64 (1 + x2) : Int).toNat - (1 : Int).toNat, 24 - (1 : Int).toNat, 0⟩, .int .u64 v3] p1.2).bind fun p4 =>
  if v1 < 0 then
    ((p4.2.st v2 (0 + (0 : Int).toNat * 1) (.int .u8 45)).bind fun H6 =>
    ck ((0 : Int) ≤ 0 ∧ 0 ≤ (w64 (1 + x2)) ∧ (w64 (1 + x2)) ≤ ((24 : Nat) : Int)) (
    none))
  else
    (ck ((0 : Int) ≤ 1 ∧ 1 ≤ (w64 (1 + x2)) ∧ (w64 (1 + x2)) ≤ ((24 : Nat) : Int)) (
    none)))
noncomputable def r113_j1 (app : App) (v1 : Int) (v2 : Bool) (H : Hp) : Option (ByteArray × Hp) :=
  if v2 = true then
    ((r165 v1 H).bind fun p2 =>
    some (p2.1, p2.2))
  else
    (lt (H.push (.cells [.int .u8 0, .int .u8 0, .int .u8 0, .int .u8 0, .int .u8 0, .int .u8 0, .int .u8 0, .int .u8 0, .int .u8 0, .int .u8 0, .int .u8 0, .int .u8 0, .int .u8 0, .int .u8 0, .int .u8 0, .int .u8 0, .int .u8 0, .int .u8 0, .int .u8 0, .int .u8 0, .int .u8 0, .int .u8 0, .int .u8 0, .int .u8 0] false)) fun H3 =>
    if v1 < 0 then
      (r113_j0 app v1 H.n (IntKind.wrap .u64 (0 - (IntKind.wrap .u64 (v1)))) H3)
    else
      (r113_j0 app v1 H.n (IntKind.wrap .u64 (v1)) H3))
noncomputable def r113 (app : App) (a0 : Int) (a1 : Int) (H : Hp) : Option (ByteArray × Hp) :=
  if a1 = 10 then
    (if 0 ≤ a0 then
      (r113_j1 app a0 (decide (a0 < 100)) H)
    else
      (r113_j1 app a0 false H))
  else
    ((app 168 [.sl ⟨true, 0, 0, 0, 0, 0⟩, .int .u64 (IntKind.wrap .u64 (a0)), .int .i64 a1, .bool (decide (a0 < 0)), .bool false] H).bind fun p3 =>
    (p3.1.asT).bind fun x4 =>
    ck (x4.length = 2) (
    (x4[0]?).bind fun x6 =>
    (x6.asSl).bind fun x7 =>
    (x4[1]?).bind fun x8 =>
    (x8.asStr).bind fun x9 =>
    some (x9, p3.2)))
/- 84 internal/strconv.Itoa -/
def ret84 : ByteArray → AV := fun r => .str r
noncomputable def r84 (app : App) (a0 : Int) (H : Hp) : Option (ByteArray × Hp) :=
  (r113 app a0 10 H).bind fun p1 =>
  some (p1.1, p1.2)
/- 53 strconv.Itoa -/
def ret53 : ByteArray → AV := fun r => .str r
noncomputable def r53 (app : App) (a0 : Int) (H : Hp) : Option (ByteArray × Hp) :=
  (r84 app a0 H).bind fun p1 =>
  some (p1.1, p1.2)
/- 163 internal/strconv.Atoi -/
def ret163 : Int × AV → AV := fun r => .tup [.int .i64 r.1, r.2]
noncomputable def r163_l0 (app : App) : Nat → ByteArray → Int → Sl → Int → Int → Hp → Option ((Int × AV) × Hp)
  | 0, _, _, _, _, _, _ => none
  | k_ + 1, v1, v2, v3, v4, v5, H => if v5 < v4 then
    (ck ((0 : Int) ≤ v5 ∧ v5 < (v3.len : Int)) (
    (H.ldI .u8 v3.b (v3.o + (v5 : Int).toNat * 1)).bind fun x3 =>
    if 9 < (IntKind.wrap .u8 (x3 - 48)) then
      (none)
    else
      (r163_l0 app k_ v1 (w64 ((w64 (v2 * 10)) + (w64 (IntKind.wrap .u8 (x3 - 48))))) v3 v4 (w64 (v5 + 1)) H)))
  else
    (ck ((0 : Int) ≤ 0 ∧ 0 < (v1.size : Int)) (
    if (bt v1 0) = 45 then
      (some ((w64 (0 - v2), .niliface), H))
    else
      (some ((v2, .niliface), H))))
noncomputable def r163_j3 (app : App) (v1 : ByteArray) (v2 : ByteArray) (H : Hp) : Option ((Int × AV) × Hp) :=
  lt (H.push (.cells (bytesAV v1) false)) fun H1 =>
  r163_l0 app FUEL v2 0 ⟨false, H.n, 0, v1.size, v1.size, 1⟩ ((⟨false, H.n, 0, v1.size, v1.size, 1⟩ : Sl).len : Int) 0 H1
noncomputable def r163_j1 (app : App) (v1 : ByteArray) (v2 : ByteArray) (v3 : Bool) (H : Hp) : Option ((Int × AV) × Hp) :=
  if v3 = true then
    (ck ((0 : Int) ≤ 1 ∧ 1 ≤ (v1.size : Int) ∧ (v1.size : Int) ≤ (v1.size : Int)) (
    if ((v1.extract (1 : Int).toNat ((v1.size : Int) : Int).toNat).size : Int) < 1 then
      (none)
    else
      (r163_j3 app (v1.extract (1 : Int).toNat ((v1.size : Int) : Int).toNat) v2 H)))
  else
    (r163_j3 app v1 v2 H)
noncomputable def r163_j2 (app : App) (v1 : ByteArray) (v2 : Bool) (H : Hp) : Option ((Int × AV) × Hp) :=
  if v2 = true then
    (ck ((0 : Int) ≤ 0 ∧ 0 < (v1.size : Int)) (
    if (bt v1 0) = 45 then
      (r163_j1 app v1 v1 true H)
    else
      (ck ((0 : Int) ≤ 0 ∧ 0 < (v1.size : Int)) (
      r163_j1 app v1 v1 (decide ((bt v1 0) = 43)) H))))
  else
    ((app 221 [.str v1, .int .i64 10, .int .i64 0] H).bind fun p5 =>
    (p5.1.asT).bind fun x6 =>
    ck (x6.length = 2) (
    (x6[0]?).bind fun x8 =>
    (x8.asI .i64).bind fun x9 =>
    (x6[1]?).bind fun x10 =>
    some ((x9, x10), p5.2)))
noncomputable def r163 (app : App) (a0 : ByteArray) (H : Hp) : Option ((Int × AV) × Hp) :=
  if 0 < (a0.size : Int) then
    (r163_j2 app a0 (decide ((a0.size : Int) < 19)) H)
  else
    (r163_j2 app a0 false H)
/- 164 strconv.toError -/
def ret164 : AV → AV := fun r => r
noncomputable def r164 (app : App) (a0 : ByteArray) (a1 : ByteArray) (a2 : Int) (a3 : Int) (a4 : AV) (H : Hp) : Option (AV × Hp) :=
  none
/- 111 strconv.Atoi -/
def ret111 : Int × AV → AV := fun r => .tup [.int .i64 r.1, r.2]
noncomputable def r111 (app : App) (a0 : ByteArray) (H : Hp) : Option ((Int × AV) × Hp) :=
  (r163 app a0 H).bind fun p1 =>
  (AV.ifc p1.1.2).bind fun x2 =>
  if x2 = true then
    ((app 164 [.str (ByteArray.mk #[65, 116, 111, 105]), .str a0, .int .i64 0, .int .i64 0, p1.1.2] p1.2).bind fun p4 =>
    some ((p1.1.1, p4.1), p4.2))
  else
    (some ((p1.1.1, .niliface), p1.2))
/- 82 congou/chest.number -/
def ret82 : Int × Bool → AV := fun r => .tup [.int .i64 r.1, .bool r.2]
noncomputable def r82 (app : App) (a0 : ByteArray) (H : Hp) : Option ((Int × Bool) × Hp) :=
  (r111 app a0 H).bind fun p1 =>
  (AV.ifc p1.1.2).bind fun x2 =>
  if x2 = true then
    (some ((p1.1.1, false), p1.2))
  else
    (if 0 ≤ p1.1.1 then
      (if (a0.size : Int) ≤ 3 then
        ((r53 app p1.1.1 p1.2).bind fun p6 =>
        some ((p1.1.1, (strEq p6.1 a0)), p6.2))
      else
        (some ((p1.1.1, false), p1.2)))
    else
      (some ((p1.1.1, false), p1.2)))
/- 49 congou/chest.read -/
def ret49 : Sl × Sl × Bool → AV := fun r => .tup [.agg [.sl r.1, .sl r.2.1], .bool r.2.2]
noncomputable def r49_j2 (app : App) (kt1 : ByteArray → Nat → Sl → Int → Int → Hp → Option ((Sl × Sl × Bool) × Hp)) (v1 : ByteArray) (v2 : Nat) (v3 : Bool) (v4 : Sl) (v5 : Int) (v6 : Int) (H : Hp) : Option ((Sl × Sl × Bool) × Hp) :=
  if v3 = true then
    (kt1 v1 v2 v4 v5 (w64 (v6 + 1)) H)
  else
    ((H.sts v2 0 [.sl ⟨true, 0, 0, 0, 0, 0⟩, .sl ⟨true, 0, 0, 0, 0, 0⟩]).bind fun H2 =>
    (H2.ldSl v2 0).bind fun x3 =>
    (H2.ldSl v2 (0 + 1)).bind fun x4 =>
    some ((x3, x4, false), H2))
noncomputable def r49_l1 (app : App) : Nat → ByteArray → Nat → Sl → Int → Int → Hp → Option ((Sl × Sl × Bool) × Hp)
  | 0, _, _, _, _, _, _ => none
  | k_ + 1, v1, v2, v3, v4, v5, H => if v5 < v4 then
    (ck ((0 : Int) ≤ v5 ∧ v5 < (v3.len : Int)) (
    (H.ldStr v3.b (v3.o + (v5 : Int).toNat * 1)).bind fun x3 =>
    ck ((0 : Int) ≤ v5 ∧ v5 < (v1.size : Int)) (
    if (bt v1 v5) = 110 then
      ((H.ldSl v2 (0 + 0)).bind fun x6 =>
      (H.apN 1 x6 [.str x3] 1).bind fun x7 =>
      (x7.2.st v2 (0 + 0) (.sl x7.1)).bind fun H8 =>
      (r81 x3 H8).bind fun p9 =>
      r49_j2 app (fun v1_ v2_ v3_ v4_ v5_ H_ => r49_l1 app k_ v1_ v2_ v3_ v4_ v5_ H_) v1 v2 p9.1 v3 v4 v5 p9.2)
    else
      ((r82 app x3 H).bind fun p10 =>
      (p10.2.ldSl v2 (0 + 1)).bind fun x11 =>
      (p10.2.apN 1 x11 [.int .i64 p10.1.1] 1).bind fun x12 =>
      (x12.2.st v2 (0 + 1) (.sl x12.1)).bind fun H13 =>
      r49_j2 app (fun v1_ v2_ v3_ v4_ v5_ H_ => r49_l1 app k_ v1_ v2_ v3_ v4_ v5_ H_) v1 v2 p10.1.2 v3 v4 v5 H13))))
  else
    ((H.ldSl v2 0).bind fun x14 =>
    (H.ldSl v2 (0 + 1)).bind fun x15 =>
    (H.sts v2 0 [.sl x14, .sl x15]).bind fun H16 =>
    (H16.ldSl v2 0).bind fun x17 =>
    (H16.ldSl v2 (0 + 1)).bind fun x18 =>
    some ((x17, x18, true), H16))
noncomputable def r49_j0 (app : App) (v1 : ByteArray) (v2 : Nat) (v3 : Sl) (v4 : Bool) (H : Hp) : Option ((Sl × Sl × Bool) × Hp) :=
  if v4 = true then
    ((H.sts v2 0 [.sl ⟨true, 0, 0, 0, 0, 0⟩, .sl ⟨true, 0, 0, 0, 0, 0⟩]).bind fun H2 =>
    (H2.ldSl v2 0).bind fun x3 =>
    (H2.ldSl v2 (0 + 1)).bind fun x4 =>
    some ((x3, x4, false), H2))
  else
    (r49_l1 app FUEL v1 v2 v3 (v3.len : Int) 0 H)
noncomputable def r49 (app : App) (a0 : ByteArray) (a1 : ByteArray) (H : Hp) : Option ((Sl × Sl × Bool) × Hp) :=
  lt (H.push (.cells [.sl ⟨true, 0, 0, 0, 0, 0⟩, .sl ⟨true, 0, 0, 0, 0, 0⟩] false)) fun H1 =>
  (r79 app a1 (ByteArray.mk #[32]) H1).bind fun p2 =>
  ck (((0 : Int) ≤ 1 ∧ 1 ≤ (p2.1.len : Int) ∧ (p2.1.len : Int) ≤ (p2.1.cap : Int)) ∧ (p2.1.opn = 0 ∨ p2.1.opn = 1)) (
  if ((p2.1.cut 1 (1 : Int).toNat ((p2.1.len : Int) : Int).toNat).len : Int) ≠ (a0.size : Int) then
    (r49_j0 app a0 H.n (p2.1.cut 1 (1 : Int).toNat ((p2.1.len : Int) : Int).toNat) true p2.2)
  else
    ((r80 app a1 p2.2).bind fun p5 =>
    r49_j0 app a0 H.n (p2.1.cut 1 (1 : Int).toNat ((p2.1.len : Int) : Int).toNat) (!p5.1) p5.2))
/- 34 (*congou/chest.state).do -/
def ret34 : Nat × Nat × ByteArray × Int → AV := fun r => .tup [.ptr r.1 r.2.1, .str r.2.2.1, .int .i64 r.2.2.2]
noncomputable def r34_j0 (app : App) (v1 : Nat) (v2 : Nat) (v3 : ByteArray) (v4 : ByteArray) (v5 : Nat) (v6 : Nat) (v7 : ByteArray) (v8 : AV) (H : Hp) : Option ((Nat × Nat × ByteArray × Int) × Hp) :=
  (r49 app v7 v3 H).bind fun p1 =>
  ((p1.2.push (.cells [.sl ⟨true, 0, 0, 0, 0, 0⟩, .sl ⟨true, 0, 0, 0, 0, 0⟩] false)).sts p1.2.n 0 [.sl p1.1.1, .sl p1.1.2.1]).bind fun H2 =>
  if p1.1.2.2 = true then
    ((H2.ldSl p1.2.n 0).bind fun x4 =>
    (H2.ldSl p1.2.n (0 + 1)).bind fun x5 =>
    (callv app v8 [.agg [.sl x4, .sl x5]] H2).bind fun p6 =>
    (p6.1.asI .i64).bind fun x7 =>
    if x7 ≠ 0 then
      (some ((v1, v2, (ByteArray.mk #[]), x7), p6.2))
    else
      (some ((v5, v6, v4, 0), p6.2)))
  else
    (some ((v1, v2, (ByteArray.mk #[]), 3), H2))
noncomputable def r34 (app : App) (a0b : Nat) (a0o : Nat) (a1 : ByteArray) (H : Hp) : Option ((Nat × Nat × ByteArray × Int) × Hp) :=
  (r42 app a1 (ByteArray.mk #[32]) H).bind fun p1 =>
  (r43 a0b a0o p1.2).bind fun p2 =>
  if (strEq p1.1.1 (ByteArray.mk #[108, 101, 97, 102])) = true then
    (r34_j0 app a0b a0o a1 p1.1.1 p2.1.1 p2.1.2 (ByteArray.mk #[110, 100]) (.fn 44 [.ptr p2.1.1 p2.1.2] []) p2.2)
  else
    (if (strEq p1.1.1 (ByteArray.mk #[103, 105, 118, 101])) = true then
      (r34_j0 app a0b a0o a1 p1.1.1 p2.1.1 p2.1.2 (ByteArray.mk #[110, 110, 100]) (.fn 45 [.ptr p2.1.1 p2.1.2] []) p2.2)
    else
      (if (strEq p1.1.1 (ByteArray.mk #[111, 114, 100, 101, 114])) = true then
        (r34_j0 app a0b a0o a1 p1.1.1 p2.1.1 p2.1.2 (ByteArray.mk #[110]) (.fn 46 [.ptr p2.1.1 p2.1.2] []) p2.2)
      else
        (if (strEq p1.1.1 (ByteArray.mk #[116, 97, 115, 116, 101])) = true then
          (r34_j0 app a0b a0o a1 p1.1.1 p2.1.1 p2.1.2 (ByteArray.mk #[100, 100]) (.fn 47 [.ptr p2.1.1 p2.1.2] []) p2.2)
        else
          (if (strEq p1.1.1 (ByteArray.mk #[111, 102, 102, 101, 114])) = true then
            (r34_j0 app a0b a0o a1 p1.1.1 p2.1.1 p2.1.2 (ByteArray.mk #[100, 100]) (.fn 48 [.ptr p2.1.1 p2.1.2] []) p2.2)
          else
            (some ((a0b, a0o, (ByteArray.mk #[]), 3), p2.2))))))
/- 50 slices.IndexFunc[[]congou/chest.page,congou/chest.page] -/
def ret50 : Int → AV := fun r => .int .i64 r
noncomputable def r50_l0 (app : App) : Nat → Sl → AV → Int → Int → Hp → Option (Int × Hp)
  | 0, _, _, _, _, _ => none
  | k_ + 1, v1, v2, v3, v4, H => if v4 < v3 then
    (ck ((0 : Int) ≤ v4 ∧ v4 < (v1.len : Int)) (
    (H.ldStr v1.b (v1.o + (v4 : Int).toNat * 3)).bind fun x3 =>
    (H.ldI .i64 v1.b ((v1.o + (v4 : Int).toNat * 3) + 1)).bind fun x4 =>
    (H.ldP v1.b ((v1.o + (v4 : Int).toNat * 3) + 2)).bind fun x5 =>
    (callv app v2 [.agg [.str x3, .int .i64 x4, .ptr x5.1 x5.2]] H).bind fun p6 =>
    (p6.1.asB).bind fun x7 =>
    if x7 = true then
      (some (v4, p6.2))
    else
      (r50_l0 app k_ v1 v2 v3 (w64 (v4 + 1)) p6.2)))
  else
    (some ((-1), H))
noncomputable def r50 (app : App) (a0 : Sl) (a1 : AV) (H : Hp) : Option (Int × Hp) :=
  r50_l0 app FUEL a0 a1 (a0.len : Int) 0 H
/- 35 (*congou/chest.Chest).child -/
def ret35 : Int → AV := fun r => .int .i64 r
noncomputable def r35 (app : App) (a0b : Nat) (a0o : Nat) (a1 : Int) (a2 : ByteArray) (H : Hp) : Option (Int × Hp) :=
  lt ((H.push (.cells [.int .i64 a1] false)).push (.cells [.str a2] false)) fun H1 =>
  (H1.ldSl a0b (a0o + 0)).bind fun x2 =>
  (r50 app x2 (.fn 51 [] [.ptr ((H.push (.cells [.int .i64 a1] false)).n) 0, .ptr H.n 0]) H1).bind fun p3 =>
  some (p3.1, p3.2)
/- 18 (*congou/chest.Chest).Do -/
def ret18 : ByteArray × Int → AV := fun r => .tup [.str r.1, .int .i64 r.2]
noncomputable def r18_j0 (app : App) (v1 : AV) (v2 : ByteArray) (v3 : Int) (H : Hp) : Option ((ByteArray × Int) × Hp) :=
  (v1.asP).bind fun x1 =>
  (H.st x1.1 (x1.2 + 1) (.int .i64 v3)).bind fun H2 =>
  some ((v2, 0), H2)
noncomputable def r18 (app : App) (a0 : AV) (a1 : ByteArray) (H : Hp) : Option ((ByteArray × Int) × Hp) :=
  (r28 a0 H).bind fun p1 =>
  if p1.1 = true then
    (some (((ByteArray.mk #[]), 1), p1.2))
  else
    ((a0.asP).bind fun x3 =>
    (r33 x3.1 x3.2 p1.2).bind fun p4 =>
    (r34 app p4.1.1 p4.1.2 a1 p4.2).bind fun p5 =>
    if p5.1.2.2.2 ≠ 0 then
      (some (((ByteArray.mk #[]), p5.1.2.2.2), p5.2))
    else
      ((a0.asP).bind fun x7 =>
      (p5.2.ldI .i64 x7.1 (x7.2 + 1)).bind fun x8 =>
      (a0.asP).bind fun x9 =>
      (r35 app x9.1 x9.2 x8 a1 p5.2).bind fun p10 =>
      if 0 ≤ p10.1 then
        (r18_j0 app a0 p5.1.2.2.1 p10.1 p10.2)
      else
        ((a0.asP).bind fun x12 =>
        (p10.2.ldSl x12.1 (x12.2 + 0)).bind fun x13 =>
        if (x13.len : Int) = 200 then
          (some (((ByteArray.mk #[]), 7), p10.2))
        else
          ((a0.asP).bind fun x15 =>
          (p10.2.ldSl x15.1 (x15.2 + 0)).bind fun x16 =>
          (a0.asP).bind fun x17 =>
          (p10.2.ldSl x17.1 (x17.2 + 0)).bind fun x18 =>
          (a0.asP).bind fun x19 =>
          (p10.2.ldI .i64 x19.1 (x19.2 + 1)).bind fun x20 =>
          (p10.2.apN 3 x18 [.str a1, .int .i64 x20, .ptr p5.1.1 p5.1.2.1] 1).bind fun x21 =>
          (a0.asP).bind fun x22 =>
          (x21.2.st x22.1 (x22.2 + 0) (.sl x21.1)).bind fun H23 =>
          ck ((p10.2.push (.cells [.str a1, .int .i64 x20, .ptr p5.1.1 p5.1.2.1] false)).ldSl x17.1 (x17.2 + 0) = some x18) (
          r18_j0 app a0 p5.1.2.2.1 (x16.len : Int) H23)))))
end Go.Lt.P10
