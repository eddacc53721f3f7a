/- PRINTED BY A PROGRAM OF OURS: what each function that 'ChestGives' reaches computes on the abstract heap, and that the translated code does just that. Nothing is asked of the input. -/
import Derived.Test.YtopildlfbhfghaaGreatDoorG6T
set_option linter.unusedVariables false
set_option linter.unusedSimpArgs false
set_option maxRecDepth 100000
set_option maxHeartbeats 4000000
namespace Go.Lt.P10
open Go Go.Lt Go.Proofs
/- 60 (*congou/chest.Chest).none -/
def ret60 : Bool → AV := fun r => .bool r
noncomputable def r60 (a0b a0o : Nat) (H : Hp) : Option (Bool × Hp) := (H.ldSl a0b (a0o + 0)).bind fun x1 => some ((decide ((x1.len : Int) = 0)), H)
/- 61 (*congou/chest.Chest).now -/
def ret61 : Nat × Nat → AV := fun r => .ptr r.1 r.2
noncomputable def r61 (a0b a0o : Nat) (H : Hp) : Option ((Nat × Nat) × Hp) := (H.ldSl a0b (a0o + 0)).bind fun x1 => (H.ldI .i64 a0b (a0o + 1)).bind fun x2 => ck ((0 : Int) ≤ x2 ∧ x2 < (x1.len : Int)) ((H.ldP x1.b ((x1.o + (x2 : Int).toNat * 3) + 2)).bind fun x4 => some ((x4.1, x4.2), H))
/- 246 internal/stringslite.IndexByte -/
def ret246 : Int → AV := fun r => .int .i64 r
noncomputable def r246 (a0 : ByteArray) (a1 : Int) (H : Hp) : Option (Int × Hp) := some (strIdx a0 a1, H)
/- 248 internal/bytealg.Cutover -/
def ret248 : Int → AV := fun r => .int .i64 r
noncomputable def r248 (a0 : Int) (H : Hp) : Option (Int × Hp) := some (w64 (Int.tdiv (w64 (a0 + 16)) 8), H)
/- 193 internal/stringslite.Index -/
def ret193 : Int → AV := fun r => .int .i64 r
noncomputable def r193_j0 (v1 v2 : ByteArray) (v3 : Int) (v4 : Bool) (H : Hp) : Option (Int × Hp) := if v4 = true then (some (0, H))
 else (if v3 = 1 then (ck ((0 : Int) ≤ 0 ∧ 0 < (v2.size : Int)) ((r246 v1 (bt v2 0) H).bind fun p4 => some (p4.1, p4.2)))
  else (if (v1.size : Int) ≤ v3 then (some ((-1), H))
   else (none)))
noncomputable def r193 (a0 a1 : ByteArray) (H : Hp) : Option (Int × Hp) := if (a1.size : Int) = 0 then (r193_j0 a0 a1 (a1.size : Int) true H)
 else (r193_j0 a0 a1 (a1.size : Int) (strEq a1 a0) H)
/- 152 internal/stringslite.Cut -/
def ret152 : ByteArray × ByteArray × Bool → AV := fun r => .tup [.str r.1, .str r.2.1, .bool r.2.2]
noncomputable def r152 (a0 a1 : ByteArray) (H : Hp) : Option ((ByteArray × ByteArray × Bool) × Hp) := (r193 a0 a1 H).bind fun p1 => if 0 ≤ p1.1 then (ck ((0 : Int) ≤ 0 ∧ 0 ≤ p1.1 ∧ p1.1 ≤ (a0.size : Int)) (ck ((0 : Int) ≤ (w64 (p1.1 + (a1.size : Int))) ∧ (w64 (p1.1 + (a1.size : Int))) ≤ (a0.size : Int) ∧ (a0.size : Int) ≤ (a0.size : Int)) (some ((a0.extract (0 : Int).toNat (p1.1 : Int).toNat, a0.extract (w64 (p1.1 + (a1.size : Int)) : Int).toNat ((a0.size : Int) : Int).toNat, true), p1.2))))
 else (some ((a0, (ByteArray.mk #[]), false), p1.2))
/- 97 strings.Cut -/
def ret97 : ByteArray × ByteArray × Bool → AV := fun r => .tup [.str r.1, .str r.2.1, .bool r.2.2]
noncomputable def r97 (a0 a1 : ByteArray) (H : Hp) : Option ((ByteArray × ByteArray × Bool) × Hp) := (r152 a0 a1 H).bind fun p1 => some ((p1.1.1, p1.1.2.1, p1.1.2.2), p1.2)
/- 146 strings.Index -/
def ret146 : Int → AV := fun r => .int .i64 r
noncomputable def r146 (a0 a1 : ByteArray) (H : Hp) : Option (Int × Hp) := (r193 a0 a1 H).bind fun p1 => some (p1.1, p1.2)
/- 145 strings.Count -/
def ret145 : Int → AV := fun r => .int .i64 r
noncomputable def r145_l0 : Nat → ByteArray → ByteArray → Int → Hp → Option (Int × Hp)
 | 0, _, _, _, _ => none
 | k_ + 1, v1, v2, v3, H => (r146 v1 v2 H).bind fun p1 => if p1.1 = (-1) then (some (v3, p1.2))
 else (ck ((0 : Int) ≤ (w64 (p1.1 + (v2.size : Int))) ∧ (w64 (p1.1 + (v2.size : Int))) ≤ (v1.size : Int) ∧ (v1.size : Int) ≤ (v1.size : Int)) (r145_l0 k_ (v1.extract (w64 (p1.1 + (v2.size : Int)) : Int).toNat ((v1.size : Int) : Int).toNat) v2 (w64 (v3 + 1)) p1.2))
noncomputable def r145 (a0 a1 : ByteArray) (H : Hp) : Option (Int × Hp) := if (a1.size : Int) = 0 then (none)
 else (if (a1.size : Int) = 1 then (ck ((0 : Int) ≤ 0 ∧ 0 < (a1.size : Int)) (some (strCnt a0 (bt a1 0), H)))
  else (r145_l0 FUEL a0 a1 0 H))
/- 88 strings.genSplit -/
def ret88 : Sl → AV := fun r => .sl r
noncomputable def r88_j2 (v1 : ByteArray) (v2 : Sl) (v3 : Int) (H : Hp) : Option (Sl × Hp) := ck ((0 : Int) ≤ v3 ∧ v3 < (v2.len : Int)) ((H.st v2.b (v2.o + (v3 : Int).toNat * 1) (.str v1)).bind fun H2 => ck (((0 : Int) ≤ 0 ∧ 0 ≤ (w64 (v3 + 1)) ∧ (w64 (v3 + 1)) ≤ (v2.cap : Int)) ∧ (v2.opn = 0 ∨ v2.opn = 1)) (some (v2.cut 1 (0 : Int).toNat (w64 (v3 + 1) : Int).toNat, H2)))
noncomputable def r88_l0 : Nat → ByteArray → ByteArray → Int → Int → Sl → Int → Hp → Option (Sl × Hp)
 | 0, _, _, _, _, _, _, _ => none
 | k_ + 1, v1, v2, v3, v4, v5, v6, H => if v6 < v4 then ((r146 v1 v2 H).bind fun p2 => if p2.1 < 0 then (r88_j2 v1 v5 v6 p2.2)
  else (ck ((0 : Int) ≤ 0 ∧ 0 ≤ (w64 (p2.1 + v3)) ∧ (w64 (p2.1 + v3)) ≤ (v1.size : Int)) (ck ((0 : Int) ≤ v6 ∧ v6 < (v5.len : Int)) ((p2.2.st v5.b (v5.o + (v6 : Int).toNat * 1) (.str (v1.extract (0 : Int).toNat (w64 (p2.1 + v3) : Int).toNat))).bind fun H6 => ck ((0 : Int) ≤ (w64 (p2.1 + (v2.size : Int))) ∧ (w64 (p2.1 + (v2.size : Int))) ≤ (v1.size : Int) ∧ (v1.size : Int) ≤ (v1.size : Int)) (r88_l0 k_ (v1.extract (w64 (p2.1 + (v2.size : Int)) : Int).toNat ((v1.size : Int) : Int).toNat) v2 v3 v4 v5 (w64 (v6 + 1)) H6)))))
 else (r88_j2 v1 v5 v6 H)
noncomputable def r88_j1 (v1 v2 : ByteArray) (v3 v4 : Int) (H : Hp) : Option (Sl × Hp) := ck ((0 : Int) ≤ (if (w64 ((v1.size : Int) + 1)) < v4 then (w64 ((v1.size : Int) + 1)) else v4) ∧ (if (w64 ((v1.size : Int) + 1)) < v4 then (w64 ((v1.size : Int) + 1)) else v4) ≤ (if (w64 ((v1.size : Int) + 1)) < v4 then (w64 ((v1.size : Int) + 1)) else v4) ∧ (if (w64 ((v1.size : Int) + 1)) < v4 then (w64 ((v1.size : Int) + 1)) else v4) ≤ 4294967296) (lt (H.push (.cells (zerosA [.str (ByteArray.mk #[])] (((if (w64 ((v1.size : Int) + 1)) < v4 then (w64 ((v1.size : Int) + 1)) else v4) : Int).toNat * 1)) false)) fun H2 => r88_l0 FUEL v1 v2 v3 (w64 ((if (w64 ((v1.size : Int) + 1)) < v4 then (w64 ((v1.size : Int) + 1)) else v4) - 1)) ⟨false, H.n, 0, ((if (w64 ((v1.size : Int) + 1)) < v4 then (w64 ((v1.size : Int) + 1)) else v4) : Int).toNat, ((if (w64 ((v1.size : Int) + 1)) < v4 then (w64 ((v1.size : Int) + 1)) else v4) : Int).toNat, 0⟩ 0 H2)
noncomputable def r88 (a0 a1 : ByteArray) (a2 a3 : Int) (H : Hp) : Option (Sl × Hp) := if a3 = 0 then (some (⟨true, 0, 0, 0, 0, 0⟩, H))
 else (if (strEq a1 (ByteArray.mk #[])) = true then (none)
  else (if a3 < 0 then ((r145 a0 a1 H).bind fun p4 => r88_j1 a0 a1 a2 (w64 (p4.1 + 1)) p4.2)
   else (r88_j1 a0 a1 a2 a3 H)))
/- 52 strings.Split -/
def ret52 : Sl → AV := fun r => .sl r
noncomputable def r52 (a0 a1 : ByteArray) (H : Hp) : Option (Sl × Hp) := (r88 a0 a1 0 (-1) H).bind fun p1 => some (p1.1, p1.2)
/- 23 slices.Index[[]string,string] -/
def ret23 : Int → AV := fun r => .int .i64 r
noncomputable def r23_l0 : Nat → Sl → ByteArray → Int → Int → Hp → Option (Int × Hp)
 | 0, _, _, _, _, _ => none
 | k_ + 1, v1, v2, v3, v4, H => if v4 < v3 then (ck ((0 : Int) ≤ v4 ∧ v4 < (v1.len : Int)) ((H.ldStr v1.b (v1.o + (v4 : Int).toNat * 1)).bind fun x3 => if (strEq v2 x3) = true then (some (v4, H))
  else (r23_l0 k_ v1 v2 v3 (w64 (v4 + 1)) H)))
 else (some ((-1), H))
noncomputable def r23 (a0 : Sl) (a1 : ByteArray) (H : Hp) : Option (Int × Hp) := r23_l0 FUEL a0 a1 (a0.len : Int) 0 H
/- 226 slices.Contains[[]string,string] -/
def ret226 : Bool → AV := fun r => .bool r
noncomputable def r226 (a0 : Sl) (a1 : ByteArray) (H : Hp) : Option (Bool × Hp) := (r23 a0 a1 H).bind fun p1 => some ((decide (0 ≤ p1.1)), p1.2)
/- 292 slices.IndexFunc[[]byte,byte] -/
def ret292 : Int → AV := fun r => .int .i64 r
noncomputable def r292_l0 (app : App) : Nat → Sl → AV → Int → Int → Hp → Option (Int × Hp)
 | 0, _, _, _, _, _ => none
 | k_ + 1, v1, v2, v3, v4, H => if v4 < v3 then (ck ((0 : Int) ≤ v4 ∧ v4 < (v1.len : Int)) ((H.ldI .u8 v1.b (v1.o + (v4 : Int).toNat * 1)).bind fun x3 => (callv app v2 [.int .u8 x3] H).bind fun p4 => (p4.1.asB).bind fun x5 => if x5 = true then (some (v4, p4.2))
  else (r292_l0 app k_ v1 v2 v3 (w64 (v4 + 1)) p4.2)))
 else (some ((-1), H))
noncomputable def r292 (app : App) (a0 : Sl) (a1 : AV) (H : Hp) : Option (Int × Hp) := r292_l0 app FUEL a0 a1 (a0.len : Int) 0 H
/- 227 slices.ContainsFunc[[]byte,byte] -/
def ret227 : Bool → AV := fun r => .bool r
noncomputable def r227 (app : App) (a0 : Sl) (a1 : AV) (H : Hp) : Option (Bool × Hp) := (r292 app a0 a1 H).bind fun p1 => some ((decide (0 ≤ p1.1)), p1.2)
/- 228 congou/chest.isLine$1 -/
def ret228 : Bool → AV := fun r => .bool r
noncomputable def r228 (a0 : Int) (H : Hp) : Option (Bool × Hp) := if a0 < 32 then (some (true, H))
 else (some ((decide (126 < a0)), H))
/- 164 congou/chest.isLine -/
def ret164 : Bool → AV := fun r => .bool r
noncomputable def r164 (app : App) (a0 : ByteArray) (H : Hp) : Option (Bool × Hp) := if (a0.size : Int) ≤ 60 then ((r52 a0 (ByteArray.mk #[32]) H).bind fun p2 => (r226 p2.1 (ByteArray.mk #[]) p2.2).bind fun p3 => if p3.1 = true then (some (false, p3.2))
  else ((r227 app ⟨false, p3.2.n, 0, a0.size, a0.size, 1⟩ (.fn 228 [] []) (p3.2.push (.cells (bytesAV a0) false))).bind fun p5 => some ((!p5.1), p5.2)))
 else (some (false, H))
/- 165 congou/chest.isName -/
def ret165 : Bool → AV := fun r => .bool r
noncomputable def r165_j1 (kt0 : ByteArray → Nat → Hp → Option (Bool × Hp)) (v1 : ByteArray) (v2 : Nat) (v3 : Bool) (H : Hp) : Option (Bool × Hp) := if v3 = true then (some (false, H))
 else (kt0 v1 v2 H)
noncomputable def r165_l0 : Nat → ByteArray → Nat → Hp → Option (Bool × Hp)
 | 0, _, _, _ => none
 | k_ + 1, v1, v2, H => (H.nxt v2).bind fun x1 => if x1.1.isSome = true then ((x1.1).bind fun x3 => if x3.2 < 97 then (r165_j1 (r165_l0 k_) v1 v2 true x1.2)
  else (r165_j1 (r165_l0 k_) v1 v2 (decide (122 < x3.2)) x1.2))
 else (if (strEq v1 (ByteArray.mk #[])) = true then (some (false, x1.2))
  else (some ((decide ((v1.size : Int) ≤ 8)), x1.2)))
noncomputable def r165 (a0 : ByteArray) (H : Hp) : Option (Bool × Hp) := lt (H.push (.iter a0 0)) fun H1 => r165_l0 FUEL a0 H.n H1
/- 166 congou/chest.number -/
def ret166 : Int × Bool → AV := fun r => .tup [.int .i64 r.1, .bool r.2]
noncomputable def r166 (app : App) (a0 : ByteArray) (H : Hp) : Option ((Int × Bool) × Hp) := (app 53 [.str a0] H).bind fun p1 => (p1.1.asT).bind fun x2 => ck (x2.length = 2) ((x2[0]?).bind fun x4 => (x4.asI .i64).bind fun x5 => (x2[1]?).bind fun x6 => (AV.ifc x6).bind fun x7 => if x7 = true then (some ((x5, false), p1.2))
 else (if 0 ≤ x5 then (if (a0.size : Int) ≤ 3 then ((app 33 [.int .i64 x5] p1.2).bind fun p11 => (p11.1.asStr).bind fun x12 => some ((x5, (strEq x12 a0)), p11.2))
   else (some ((x5, false), p1.2)))
  else (some ((x5, false), p1.2))))
/- 108 congou/chest.read -/
def ret108 : Sl × Sl × Bool → AV := fun r => .tup [.agg [.sl r.1, .sl r.2.1], .bool r.2.2]
noncomputable def r108_j2 (app : App) (kt1 : ByteArray → Nat → Sl → Int → Int → Hp → Option ((Sl × Sl × Bool) × Hp)) (v1 : ByteArray) (v2 : Nat) (v3 : Bool) (v4 : Sl) (v5 v6 : Int) (H : Hp) : Option ((Sl × Sl × Bool) × Hp) := if v3 = true then (kt1 v1 v2 v4 v5 (w64 (v6 + 1)) H)
 else ((H.sts v2 0 [.sl ⟨true, 0, 0, 0, 0, 0⟩, .sl ⟨true, 0, 0, 0, 0, 0⟩]).bind fun H2 => (H2.ldSl v2 0).bind fun x3 => (H2.ldSl v2 (0 + 1)).bind fun x4 => some ((x3, x4, false), H2))
noncomputable def r108_l1 (app : App) : Nat → ByteArray → Nat → Sl → Int → Int → Hp → Option ((Sl × Sl × Bool) × Hp)
 | 0, _, _, _, _, _, _ => none
 | k_ + 1, v1, v2, v3, v4, v5, H => if v5 < v4 then (ck ((0 : Int) ≤ v5 ∧ v5 < (v3.len : Int)) ((H.ldStr v3.b (v3.o + (v5 : Int).toNat * 1)).bind fun x3 => ck ((0 : Int) ≤ v5 ∧ v5 < (v1.size : Int)) (if (bt v1 v5) = 110 then ((H.ldSl v2 (0 + 0)).bind fun x6 => (H.apN 1 x6 [.str x3] 1).bind fun x7 => (x7.2.st v2 (0 + 0) (.sl x7.1)).bind fun H8 => (r165 x3 H8).bind fun p9 => r108_j2 app (r108_l1 app k_) v1 v2 p9.1 v3 v4 v5 p9.2)
  else ((r166 app x3 H).bind fun p10 => (p10.2.ldSl v2 (0 + 1)).bind fun x11 => (p10.2.apN 1 x11 [.int .i64 p10.1.1] 1).bind fun x12 => (x12.2.st v2 (0 + 1) (.sl x12.1)).bind fun H13 => r108_j2 app (r108_l1 app k_) v1 v2 p10.1.2 v3 v4 v5 H13))))
 else ((H.ldSl v2 0).bind fun x14 => (H.ldSl v2 (0 + 1)).bind fun x15 => (H.sts v2 0 [.sl x14, .sl x15]).bind fun H16 => (H16.ldSl v2 0).bind fun x17 => (H16.ldSl v2 (0 + 1)).bind fun x18 => some ((x17, x18, true), H16))
noncomputable def r108_j0 (app : App) (v1 : ByteArray) (v2 : Nat) (v3 : Sl) (v4 : Bool) (H : Hp) : Option ((Sl × Sl × Bool) × Hp) := if v4 = true then ((H.sts v2 0 [.sl ⟨true, 0, 0, 0, 0, 0⟩, .sl ⟨true, 0, 0, 0, 0, 0⟩]).bind fun H2 => (H2.ldSl v2 0).bind fun x3 => (H2.ldSl v2 (0 + 1)).bind fun x4 => some ((x3, x4, false), H2))
 else (r108_l1 app FUEL v1 v2 v3 (v3.len : Int) 0 H)
noncomputable def r108 (app : App) (a0 a1 : ByteArray) (H : Hp) : Option ((Sl × Sl × Bool) × Hp) := lt (H.push (.cells [.sl ⟨true, 0, 0, 0, 0, 0⟩, .sl ⟨true, 0, 0, 0, 0, 0⟩] false)) fun H1 => (r52 a1 (ByteArray.mk #[32]) H1).bind fun p2 => ck (((0 : Int) ≤ 1 ∧ 1 ≤ (p2.1.len : Int) ∧ (p2.1.len : Int) ≤ (p2.1.cap : Int)) ∧ (p2.1.opn = 0 ∨ p2.1.opn = 1)) (if ((p2.1.cut 1 (1 : Int).toNat ((p2.1.len : Int) : Int).toNat).len : Int) ≠ (a0.size : Int) then (r108_j0 app a0 H.n (p2.1.cut 1 (1 : Int).toNat ((p2.1.len : Int) : Int).toNat) true p2.2)
 else ((r164 app a1 p2.2).bind fun p5 => r108_j0 app a0 H.n (p2.1.cut 1 (1 : Int).toNat ((p2.1.len : Int) : Int).toNat) (!p5.1) p5.2))
/- 18 slices.Clone[[]int,int] -/
def ret18 : Sl → AV := fun r => .sl r
noncomputable def r18 (a0 : Sl) (H : Hp) : Option (Sl × Hp) := if a0.nil = true then (some (⟨true, 0, 0, 0, 0, 0⟩, H))
 else (((H.push (.cells [] false)).lds a0.b a0.o (a0.len * 1)).bind fun x2 => ck (x2.all AV.one = true) (((H.push (.cells [] false)).app 1 ⟨false, H.n, 0, 0, 0, 0⟩ x2 a0.len).bind fun x4 => some (x4.1, x4.2)))
/- 168 slices.Clone[[]congou/chest.leaf,congou/chest.leaf] -/
def ret168 : Sl → AV := fun r => .sl r
noncomputable def r168 (a0 : Sl) (H : Hp) : Option (Sl × Hp) := if a0.nil = true then (some (⟨true, 0, 0, 0, 0, 0⟩, H))
 else (((H.push (.cells [] false)).lds a0.b a0.o (a0.len * 2)).bind fun x2 => ck (x2.all AV.one = true) (((H.push (.cells [] false)).app 2 ⟨false, H.n, 0, 0, 0, 0⟩ x2 a0.len).bind fun x4 => some (x4.1, x4.2)))
/- 169 slices.Clone[[][2]int,[2]int] -/
def ret169 : Sl → AV := fun r => .sl r
noncomputable def r169 (a0 : Sl) (H : Hp) : Option (Sl × Hp) := if a0.nil = true then (some (⟨true, 0, 0, 0, 0, 0⟩, H))
 else (((H.push (.cells [] false)).lds a0.b a0.o (a0.len * 2)).bind fun x2 => ck (x2.all AV.one = true) (((H.push (.cells [] false)).app 2 ⟨false, H.n, 0, 0, 0, 0⟩ x2 a0.len).bind fun x4 => some (x4.1, x4.2)))
/- 111 (*congou/chest.state).clone -/
def ret111 : Nat × Nat → AV := fun r => .ptr r.1 r.2
noncomputable def r111 (a0b a0o : Nat) (H : Hp) : Option ((Nat × Nat) × Hp) := (H.ldSl a0b (a0o + 0)).bind fun x1 => (r168 x1 H).bind fun p2 => (p2.2.ldSl a0b (a0o + 1)).bind fun x3 => (r18 x3 p2.2).bind fun p4 => (p4.2.ldI .i64 a0b (a0o + 2)).bind fun x5 => (p4.2.ldI .i64 a0b ((a0o + 2) + 1)).bind fun x6 => (p4.2.ldI .i64 a0b ((a0o + 2) + 2)).bind fun x7 => (p4.2.ldI .i64 a0b ((a0o + 2) + 3)).bind fun x8 => (p4.2.ldSl a0b (a0o + 6)).bind fun x9 => (r169 x9 p4.2).bind fun p10 => ck (H.ldSl a0b (a0o + 1) = some x3) (ck (H.ldI .i64 a0b (a0o + 2) = some x5) (ck (H.ldI .i64 a0b ((a0o + 2) + 1) = some x6) (ck (H.ldI .i64 a0b ((a0o + 2) + 2) = some x7) (ck (H.ldI .i64 a0b ((a0o + 2) + 3) = some x8) (ck (H.ldSl a0b (a0o + 6) = some x9) (ck (p2.2.ldI .i64 a0b (a0o + 2) = some x5) (ck (p2.2.ldI .i64 a0b ((a0o + 2) + 1) = some x6) (ck (p2.2.ldI .i64 a0b ((a0o + 2) + 2) = some x7) (ck (p2.2.ldI .i64 a0b ((a0o + 2) + 3) = some x8) (ck (p2.2.ldSl a0b (a0o + 6) = some x9) (ck (p4.2.ldSl a0b (a0o + 1) = some x3) (ck (p10.2.ldSl a0b (a0o + 1) = some x3) (ck (p10.2.ldI .i64 a0b (a0o + 2) = some x5) (ck (p10.2.ldI .i64 a0b ((a0o + 2) + 1) = some x6) (ck (p10.2.ldI .i64 a0b ((a0o + 2) + 2) = some x7) (ck (p10.2.ldI .i64 a0b ((a0o + 2) + 3) = some x8) (ck (p10.2.ldSl a0b (a0o + 6) = some x9) (some ((p10.2.n, 0), (p10.2.push (.cells [.sl p2.1, .sl p4.1, .int .i64 x5, .int .i64 x6, .int .i64 x7, .int .i64 x8, .sl p10.1] false)))))))))))))))))))))
/- 64 (*congou/chest.state).do -/
def ret64 : Nat × Nat × ByteArray × Int → AV := fun r => .tup [.ptr r.1 r.2.1, .str r.2.2.1, .int .i64 r.2.2.2]
noncomputable def r64_j0 (app : App) (v1 v2 : Nat) (v3 v4 : ByteArray) (v5 v6 : Nat) (v7 : ByteArray) (v8 : AV) (H : Hp) : Option ((Nat × Nat × ByteArray × Int) × Hp) := (r108 app v7 v3 H).bind fun p1 => ((p1.2.push (.cells [.sl ⟨true, 0, 0, 0, 0, 0⟩, .sl ⟨true, 0, 0, 0, 0, 0⟩] false)).sts p1.2.n 0 [.sl p1.1.1, .sl p1.1.2.1]).bind fun H2 => if p1.1.2.2 = true then ((H2.ldSl p1.2.n 0).bind fun x4 => (H2.ldSl p1.2.n (0 + 1)).bind fun x5 => (callv app v8 [.agg [.sl x4, .sl x5]] H2).bind fun p6 => (p6.1.asI .i64).bind fun x7 => if x7 ≠ 0 then (some ((v1, v2, (ByteArray.mk #[]), x7), p6.2))
  else (some ((v5, v6, v4, 0), p6.2)))
 else (some ((v1, v2, (ByteArray.mk #[]), 3), H2))
noncomputable def r64 (app : App) (a0b a0o : Nat) (a1 : ByteArray) (H : Hp) : Option ((Nat × Nat × ByteArray × Int) × Hp) := (r97 a1 (ByteArray.mk #[32]) H).bind fun p1 => (r111 a0b a0o p1.2).bind fun p2 => if (strEq p1.1.1 (ByteArray.mk #[108, 101, 97, 102])) = true then (r64_j0 app a0b a0o a1 p1.1.1 p2.1.1 p2.1.2 (ByteArray.mk #[110, 100]) (.fn 112 [.ptr p2.1.1 p2.1.2] []) p2.2)
 else (if (strEq p1.1.1 (ByteArray.mk #[103, 105, 118, 101])) = true then (r64_j0 app a0b a0o a1 p1.1.1 p2.1.1 p2.1.2 (ByteArray.mk #[110, 110, 100]) (.fn 113 [.ptr p2.1.1 p2.1.2] []) p2.2)
  else (if (strEq p1.1.1 (ByteArray.mk #[111, 114, 100, 101, 114])) = true then (r64_j0 app a0b a0o a1 p1.1.1 p2.1.1 p2.1.2 (ByteArray.mk #[110]) (.fn 114 [.ptr p2.1.1 p2.1.2] []) p2.2)
   else (if (strEq p1.1.1 (ByteArray.mk #[116, 97, 115, 116, 101])) = true then (r64_j0 app a0b a0o a1 p1.1.1 p2.1.1 p2.1.2 (ByteArray.mk #[100, 100]) (.fn 115 [.ptr p2.1.1 p2.1.2] []) p2.2)
    else (if (strEq p1.1.1 (ByteArray.mk #[111, 102, 102, 101, 114])) = true then (r64_j0 app a0b a0o a1 p1.1.1 p2.1.1 p2.1.2 (ByteArray.mk #[100, 100]) (.fn 116 [.ptr p2.1.1 p2.1.2] []) p2.2)
     else (some ((a0b, a0o, (ByteArray.mk #[]), 3), p2.2))))))
/- 117 slices.IndexFunc[[]congou/chest.page,congou/chest.page] -/
def ret117 : Int → AV := fun r => .int .i64 r
noncomputable def r117_l0 (app : App) : Nat → Sl → AV → Int → Int → Hp → Option (Int × Hp)
 | 0, _, _, _, _, _ => none
 | k_ + 1, v1, v2, v3, v4, H => if v4 < v3 then (ck ((0 : Int) ≤ v4 ∧ v4 < (v1.len : Int)) ((H.ldStr v1.b (v1.o + (v4 : Int).toNat * 3)).bind fun x3 => (H.ldI .i64 v1.b ((v1.o + (v4 : Int).toNat * 3) + 1)).bind fun x4 => (H.ldP v1.b ((v1.o + (v4 : Int).toNat * 3) + 2)).bind fun x5 => (callv app v2 [.agg [.str x3, .int .i64 x4, .ptr x5.1 x5.2]] H).bind fun p6 => (p6.1.asB).bind fun x7 => if x7 = true then (some (v4, p6.2))
  else (r117_l0 app k_ v1 v2 v3 (w64 (v4 + 1)) p6.2)))
 else (some ((-1), H))
noncomputable def r117 (app : App) (a0 : Sl) (a1 : AV) (H : Hp) : Option (Int × Hp) := r117_l0 app FUEL a0 a1 (a0.len : Int) 0 H
/- 65 (*congou/chest.Chest).child -/
def ret65 : Int → AV := fun r => .int .i64 r
noncomputable def r65 (app : App) (a0b a0o : Nat) (a1 : Int) (a2 : ByteArray) (H : Hp) : Option (Int × Hp) := lt ((H.push (.cells [.int .i64 a1] false)).push (.cells [.str a2] false)) fun H1 => (H1.ldSl a0b (a0o + 0)).bind fun x2 => (r117 app x2 (.fn 118 [] [.ptr ((H.push (.cells [.int .i64 a1] false)).n) 0, .ptr H.n 0]) H1).bind fun p3 => some (p3.1, p3.2)
/- 20 (*congou/chest.Chest).Do -/
def ret20 : ByteArray × Int → AV := fun r => .tup [.str r.1, .int .i64 r.2]
noncomputable def r20_j0 (app : App) (v1 v2 : Nat) (v3 : ByteArray) (v4 : Int) (H : Hp) : Option ((ByteArray × Int) × Hp) := (H.st v1 (v2 + 1) (.int .i64 v4)).bind fun H1 => some ((v3, 0), H1)
noncomputable def r20 (app : App) (a0b a0o : Nat) (a1 : ByteArray) (H : Hp) : Option ((ByteArray × Int) × Hp) := (r60 a0b a0o H).bind fun p1 => if p1.1 = true then (some (((ByteArray.mk #[]), 1), p1.2))
 else ((r61 a0b a0o p1.2).bind fun p3 => (r64 app p3.1.1 p3.1.2 a1 p3.2).bind fun p4 => if p4.1.2.2.2 ≠ 0 then (some (((ByteArray.mk #[]), p4.1.2.2.2), p4.2))
  else ((p4.2.ldI .i64 a0b (a0o + 1)).bind fun x6 => (r65 app a0b a0o x6 a1 p4.2).bind fun p7 => if 0 ≤ p7.1 then (r20_j0 app a0b a0o p4.1.2.2.1 p7.1 p7.2)
   else ((p7.2.ldSl a0b (a0o + 0)).bind fun x9 => if (x9.len : Int) = 200 then (some (((ByteArray.mk #[]), 7), p7.2))
    else ((p7.2.ldSl a0b (a0o + 0)).bind fun x11 => (p7.2.ldSl a0b (a0o + 0)).bind fun x12 => (p7.2.ldI .i64 a0b (a0o + 1)).bind fun x13 => (p7.2.apN 3 x12 [.str a1, .int .i64 x13, .ptr p4.1.1 p4.1.2.1] 1).bind fun x14 => (x14.2.st a0b (a0o + 0) (.sl x14.1)).bind fun H15 => ck ((p7.2.push (.cells [.str a1, .int .i64 x13, .ptr p4.1.1 p4.1.2.1] false)).ldSl a0b (a0o + 0) = some x12) (r20_j0 app a0b a0o p4.1.2.2.1 (x11.len : Int) H15)))))
/- 174 slices.IndexFunc[[]int,int] -/
def ret174 : Int → AV := fun r => .int .i64 r
noncomputable def r174_l0 (app : App) : Nat → Sl → AV → Int → Int → Hp → Option (Int × Hp)
 | 0, _, _, _, _, _ => none
 | k_ + 1, v1, v2, v3, v4, H => if v4 < v3 then (ck ((0 : Int) ≤ v4 ∧ v4 < (v1.len : Int)) ((H.ldI .i64 v1.b (v1.o + (v4 : Int).toNat * 1)).bind fun x3 => (callv app v2 [.int .i64 x3] H).bind fun p4 => (p4.1.asB).bind fun x5 => if x5 = true then (some (v4, p4.2))
  else (r174_l0 app k_ v1 v2 v3 (w64 (v4 + 1)) p4.2)))
 else (some ((-1), H))
noncomputable def r174 (app : App) (a0 : Sl) (a1 : AV) (H : Hp) : Option (Int × Hp) := r174_l0 app FUEL a0 a1 (a0.len : Int) 0 H
/- 121 slices.ContainsFunc[[]int,int] -/
def ret121 : Bool → AV := fun r => .bool r
noncomputable def r121 (app : App) (a0 : Sl) (a1 : AV) (H : Hp) : Option (Bool × Hp) := (r174 app a0 a1 H).bind fun p1 => some ((decide (0 ≤ p1.1)), p1.2)
/- 79 (*congou/chest.Chest).has -/
def ret79 : Bool → AV := fun r => .bool r
noncomputable def r79 (app : App) (a0b a0o : Nat) (a1 : Sl) (H : Hp) : Option (Bool × Hp) := lt (H.push (.cells [.ptr a0b a0o] false)) fun H1 => (r121 app a1 (.fn 130 [] [.ptr H.n 0]) H1).bind fun p2 => some ((!p2.1), p2.2)
/- 40 (*congou/chest.Chest).Go -/
def ret40 : Int → AV := fun r => .int .i64 r
noncomputable def r40 (app : App) (a0b a0o : Nat) (a1 : Int) (H : Hp) : Option (Int × Hp) := (r60 a0b a0o H).bind fun p1 => if p1.1 = true then (some (1, p1.2))
 else ((r79 app a0b a0o ⟨false, p1.2.n, 0, 1, 1, 0⟩ (p1.2.push (.cells [.int .i64 a1] false))).bind fun p3 => if p3.1 = true then ((p3.2.st a0b (a0o + 1) (.int .i64 a1)).bind fun H5 => some (0, H5))
  else (some (2, p3.2)))
/- 47 congou/chest.New -/
def ret47 : Nat × Nat → AV := fun r => .ptr r.1 r.2
noncomputable def r47 (H : Hp) : Option ((Nat × Nat) × Hp) := lt (((H.push (.cells [.sl ⟨true, 0, 0, 0, 0, 0⟩, .sl ⟨true, 0, 0, 0, 0, 0⟩, .int .i64 0, .int .i64 0, .int .i64 0, .int .i64 0, .sl ⟨true, 0, 0, 0, 0, 0⟩] false)).push (.cells [.str (ByteArray.mk #[]), .int .i64 0, .ptr H.n 0] false)).push (.cells [.sl ⟨false, (H.push (.cells [.sl ⟨true, 0, 0, 0, 0, 0⟩, .sl ⟨true, 0, 0, 0, 0, 0⟩, .int .i64 0, .int .i64 0, .int .i64 0, .int .i64 0, .sl ⟨true, 0, 0, 0, 0, 0⟩] false)).n, 0, 1, 1, 0⟩, .int .i64 0] false)) fun H1 => some ((((H.push (.cells [.sl ⟨true, 0, 0, 0, 0, 0⟩, .sl ⟨true, 0, 0, 0, 0, 0⟩, .int .i64 0, .int .i64 0, .int .i64 0, .int .i64 0, .sl ⟨true, 0, 0, 0, 0, 0⟩] false)).push (.cells [.str (ByteArray.mk #[]), .int .i64 0, .ptr H.n 0] false)).n, 0), H1)
/- 137 slices.Reverse[[]int,int] -/
def ret137 : Unit → AV := fun _ => .tup []
noncomputable def r137_l0 : Nat → Sl → Int → Int → Hp → Option (Unit × Hp)
 | 0, _, _, _, _ => none
 | k_ + 1, v1, v2, v3, H => if v2 < v3 then (ck ((0 : Int) ≤ v3 ∧ v3 < (v1.len : Int)) ((H.ldI .i64 v1.b (v1.o + (v3 : Int).toNat * 1)).bind fun x3 => ck ((0 : Int) ≤ v2 ∧ v2 < (v1.len : Int)) ((H.ldI .i64 v1.b (v1.o + (v2 : Int).toNat * 1)).bind fun x5 => ck ((0 : Int) ≤ v2 ∧ v2 < (v1.len : Int)) ((H.st v1.b (v1.o + (v2 : Int).toNat * 1) (.int .i64 x3)).bind fun H7 => ck ((0 : Int) ≤ v3 ∧ v3 < (v1.len : Int)) ((H7.st v1.b (v1.o + (v3 : Int).toNat * 1) (.int .i64 x5)).bind fun H9 => r137_l0 k_ v1 (w64 (v2 + 1)) (w64 (v3 - 1)) H9)))))
 else (some ((), H))
noncomputable def r137 (a0 : Sl) (H : Hp) : Option (Unit × Hp) := r137_l0 FUEL a0 0 (w64 ((a0.len : Int) - 1)) H
/- 81 (*congou/chest.Chest).way -/
def ret81 : Sl → AV := fun r => .sl r
noncomputable def r81_l0 : Nat → Nat → Nat → Sl → Int → Hp → Option (Sl × Hp)
 | 0, _, _, _, _, _ => none
 | k_ + 1, v1, v2, v3, v4, H => if v4 ≠ 0 then ((H.apN 1 v3 [.int .i64 v4] 1).bind fun x2 => (x2.2.ldSl v1 (v2 + 0)).bind fun x3 => ck ((0 : Int) ≤ v4 ∧ v4 < (x3.len : Int)) ((x2.2.ldI .i64 x3.b ((x3.o + (v4 : Int).toNat * 3) + 1)).bind fun x5 => r81_l0 k_ v1 v2 x2.1 x5 x2.2))
 else ((r137 v3 H).bind fun p6 => some (v3, p6.2))
noncomputable def r81 (a0b a0o : Nat) (a1 : Int) (H : Hp) : Option (Sl × Hp) := r81_l0 FUEL a0b a0o ⟨true, 0, 0, 0, 0, 0⟩ a1 H
/- 75 (*congou/chest.Chest).Back -/
def ret75 : Int → AV := fun r => .int .i64 r
noncomputable def r75_l0 : Nat → Nat → Nat → Int → Int → Hp → Option (Int × Hp)
 | 0, _, _, _, _, _ => none
 | k_ + 1, v1, v2, v3, v4, H => if v4 < v3 then ((H.ldSl v1 (v2 + 0)).bind fun x2 => (H.ldI .i64 v1 (v2 + 1)).bind fun x3 => ck ((0 : Int) ≤ x3 ∧ x3 < (x2.len : Int)) ((H.ldI .i64 x2.b ((x2.o + (x3 : Int).toNat * 3) + 1)).bind fun x5 => (H.st v1 (v2 + 1) (.int .i64 x5)).bind fun H6 => r75_l0 k_ v1 v2 v3 (w64 (v4 + 1)) H6))
 else (some (0, H))
noncomputable def r75 (a0b a0o : Nat) (a1 : Int) (H : Hp) : Option (Int × Hp) := (r60 a0b a0o H).bind fun p1 => if p1.1 = true then (some (1, p1.2))
 else (if a1 < 0 then (some (2, p1.2))
  else ((p1.2.ldI .i64 a0b (a0o + 1)).bind fun x4 => (r81 a0b a0o x4 p1.2).bind fun p5 => if (p5.1.len : Int) < a1 then (some (4, p5.2))
   else (r75_l0 FUEL a0b a0o a1 0 p5.2)))
/- 127 (*congou/chest.Chest).fork -/
def ret127 : Int × Sl → AV := fun r => .tup [.int .i64 r.1, .sl r.2]
noncomputable def r127_j1 (kt0 : Int → Sl → Sl → Hp → Option ((Int × Sl) × Hp)) (v1 : Int) (v2 v3 : Sl) (v4 : Bool) (H : Hp) : Option ((Int × Sl) × Hp) := if v4 = true then (ck ((0 : Int) ≤ 0 ∧ 0 < (v2.len : Int)) ((H.ldI .i64 v2.b (v2.o + (0 : Int).toNat * 1)).bind fun x3 => ck (((0 : Int) ≤ 1 ∧ 1 ≤ (v2.len : Int) ∧ (v2.len : Int) ≤ (v2.cap : Int)) ∧ (v2.opn = 0 ∨ v2.opn = 1)) (ck (((0 : Int) ≤ 1 ∧ 1 ≤ (v3.len : Int) ∧ (v3.len : Int) ≤ (v3.cap : Int)) ∧ (v3.opn = 0 ∨ v3.opn = 1)) (kt0 x3 (v2.cut 1 (1 : Int).toNat ((v2.len : Int) : Int).toNat) (v3.cut 1 (1 : Int).toNat ((v3.len : Int) : Int).toNat) H))))
 else (some ((v1, v3), H))
noncomputable def r127_l0 : Nat → Int → Sl → Sl → Hp → Option ((Int × Sl) × Hp)
 | 0, _, _, _, _ => none
 | k_ + 1, v1, v2, v3, H => if 0 < (v2.len : Int) then (if 0 < (v3.len : Int) then (ck ((0 : Int) ≤ 0 ∧ 0 < (v2.len : Int)) ((H.ldI .i64 v2.b (v2.o + (0 : Int).toNat * 1)).bind fun x4 => ck ((0 : Int) ≤ 0 ∧ 0 < (v3.len : Int)) ((H.ldI .i64 v3.b (v3.o + (0 : Int).toNat * 1)).bind fun x6 => r127_j1 (r127_l0 k_) v1 v2 v3 (decide (x4 = x6)) H)))
  else (r127_j1 (r127_l0 k_) v1 v2 v3 false H))
 else (r127_j1 (r127_l0 k_) v1 v2 v3 false H)
noncomputable def r127 (a0b a0o : Nat) (a1 a2 : Int) (H : Hp) : Option ((Int × Sl) × Hp) := (r81 a0b a0o a1 H).bind fun p1 => (r81 a0b a0o a2 p1.2).bind fun p2 => r127_l0 FUEL 0 p1.1 p2.1 p2.2
/- 76 (*congou/chest.Chest).Move -/
def ret76 : Int × Int → AV := fun r => .tup [.int .i64 r.1, .int .i64 r.2]
noncomputable def r76_l0 (app : App) : Nat → Nat → Nat → Int → Sl → Int → Int → Hp → Option ((Int × Int) × Hp)
 | 0, _, _, _, _, _, _, _ => none
 | k_ + 1, v1, v2, v3, v4, v5, v6, H => if v6 < v5 then (ck ((0 : Int) ≤ v6 ∧ v6 < (v4.len : Int)) ((H.ldI .i64 v4.b (v4.o + (v6 : Int).toNat * 1)).bind fun x3 => (H.ldSl v1 (v2 + 0)).bind fun x4 => ck ((0 : Int) ≤ x3 ∧ x3 < (x4.len : Int)) ((H.ldStr x4.b ((x4.o + (x3 : Int).toNat * 3) + 0)).bind fun x6 => (r20 app v1 v2 x6 H).bind fun p7 => if p7.1.2 = 0 then (r76_l0 app k_ v1 v2 (w64 (v3 + 1)) v4 v5 (w64 (v6 + 1)) p7.2)
  else (r76_l0 app k_ v1 v2 v3 v4 v5 (w64 (v6 + 1)) p7.2))))
 else (some ((v3, 0), H))
noncomputable def r76 (app : App) (a0b a0o : Nat) (a1 : Int) (H : Hp) : Option ((Int × Int) × Hp) := (r60 a0b a0o H).bind fun p1 => if p1.1 = true then (some ((0, 1), p1.2))
 else ((r79 app a0b a0o ⟨false, p1.2.n, 0, 1, 1, 0⟩ (p1.2.push (.cells [.int .i64 a1] false))).bind fun p3 => if p3.1 = true then ((p3.2.ldI .i64 a0b (a0o + 1)).bind fun x5 => (r127 a0b a0o x5 a1 p3.2).bind fun p6 => r76_l0 app FUEL a0b a0o 0 p6.1.2 (p6.1.2.len : Int) 0 p6.2)
  else (some ((0, 2), p3.2)))
/- 30 congou/congoulaw10.played -/
def ret30 : Nat × Nat → AV := fun r => .ptr r.1 r.2
noncomputable def r30_l0 (app : App) : Nat → Nat → Nat → Sl → Int → Int → Hp → Option ((Nat × Nat) × Hp)
 | 0, _, _, _, _, _, _ => none
 | k_ + 1, v1, v2, v3, v4, v5, H => if v5 < v4 then (ck ((0 : Int) ≤ v5 ∧ v5 < (v3.len : Int)) ((H.ldI .i64 v3.b (v3.o + (v5 : Int).toNat * 4)).bind fun x3 => (H.ldI .i64 v3.b ((v3.o + (v5 : Int).toNat * 4) + 1)).bind fun x4 => (H.ldI .i64 v3.b ((v3.o + (v5 : Int).toNat * 4) + 2)).bind fun x5 => (H.ldStr v3.b ((v3.o + (v5 : Int).toNat * 4) + 3)).bind fun x6 => ((H.push (.cells [.int .i64 0, .int .i64 0, .int .i64 0, .str (ByteArray.mk #[])] false)).sts H.n 0 [.int .i64 x3, .int .i64 x4, .int .i64 x5, .str x6]).bind fun H7 => (H7.ldI .i64 H.n (0 + 0)).bind fun x8 => if x8 = 0 then ((H7.ldStr H.n (0 + 3)).bind fun x10 => (r20 app v1 v2 x10 H7).bind fun p11 => r30_l0 app k_ v1 v2 v3 v4 (w64 (v5 + 1)) p11.2)
  else (if x8 = 2 then ((H7.ldI .i64 H.n (0 + 1)).bind fun x13 => (r40 app v1 v2 x13 H7).bind fun p14 => r30_l0 app k_ v1 v2 v3 v4 (w64 (v5 + 1)) p14.2)
   else (if x8 = 3 then ((H7.ldI .i64 H.n (0 + 1)).bind fun x16 => (r75 v1 v2 x16 H7).bind fun p17 => r30_l0 app k_ v1 v2 v3 v4 (w64 (v5 + 1)) p17.2)
    else (if x8 = 5 then ((H7.ldI .i64 H.n (0 + 1)).bind fun x19 => (r76 app v1 v2 x19 H7).bind fun p20 => r30_l0 app k_ v1 v2 v3 v4 (w64 (v5 + 1)) p20.2)
     else (r30_l0 app k_ v1 v2 v3 v4 (w64 (v5 + 1)) H7))))))
 else (some ((v1, v2), H))
noncomputable def r30 (app : App) (a0 : Sl) (H : Hp) : Option ((Nat × Nat) × Hp) := (r47 H).bind fun p1 => ck (((0 : Int) ≤ 0 ∧ 0 ≤ (if 60 < (a0.len : Int) then 60 else (a0.len : Int)) ∧ (if 60 < (a0.len : Int) then 60 else (a0.len : Int)) ≤ (a0.cap : Int)) ∧ (a0.opn = 0 ∨ a0.opn = 4)) (r30_l0 app FUEL p1.1.1 p1.1.2 (a0.cut 4 (0 : Int).toNat ((if 60 < (a0.len : Int) then 60 else (a0.len : Int)) : Int).toNat) ((a0.cut 4 (0 : Int).toNat ((if 60 < (a0.len : Int) then 60 else (a0.len : Int)) : Int).toNat).len : Int) 0 p1.2)
/- 133 (*congou/chest.state).names -/
def ret133 : Sl → AV := fun r => .sl r
noncomputable def r133_l0 : Nat → Nat → Nat → Sl → Sl → Int → Int → Hp → Option (Sl × Hp)
 | 0, _, _, _, _, _, _, _ => none
 | k_ + 1, v1, v2, v3, v4, v5, v6, H => if v6 < v5 then (ck ((0 : Int) ≤ v6 ∧ v6 < (v4.len : Int)) ((H.ldI .i64 v4.b (v4.o + (v6 : Int).toNat * 1)).bind fun x3 => (H.ldSl v1 (v2 + 0)).bind fun x4 => ck ((0 : Int) ≤ x3 ∧ x3 < (x4.len : Int)) ((H.ldStr x4.b ((x4.o + (x3 : Int).toNat * 2) + 0)).bind fun x6 => (H.apN 1 v3 [.str x6] 1).bind fun x7 => r133_l0 k_ v1 v2 x7.1 v4 v5 (w64 (v6 + 1)) x7.2)))
 else (some (v3, H))
noncomputable def r133 (a0b a0o : Nat) (a1 : Sl) (H : Hp) : Option (Sl × Hp) := r133_l0 FUEL a0b a0o ⟨true, 0, 0, 0, 0, 0⟩ a1 (a1.len : Int) 0 H
/- 134 congou/chest.numbers -/
def ret134 : Sl → AV := fun r => .sl r
noncomputable def r134_l0 (app : App) : Nat → Sl → Sl → Int → Int → Hp → Option (Sl × Hp)
 | 0, _, _, _, _, _ => none
 | k_ + 1, v1, v2, v3, v4, H => if v4 < v3 then (ck ((0 : Int) ≤ v4 ∧ v4 < (v2.len : Int)) ((H.ldI .i64 v2.b (v2.o + (v4 : Int).toNat * 1)).bind fun x3 => (app 33 [.int .i64 x3] H).bind fun p4 => (p4.1.asStr).bind fun x5 => (p4.2.apN 1 v1 [.str x5] 1).bind fun x6 => r134_l0 app k_ x6.1 v2 v3 (w64 (v4 + 1)) x6.2))
 else (some (v1, H))
noncomputable def r134 (app : App) (a0 : Sl) (H : Hp) : Option (Sl × Hp) := r134_l0 app FUEL ⟨true, 0, 0, 0, 0, 0⟩ a0 (a0.len : Int) 0 H
/- 186 slices.Grow[[]int,int] -/
def ret186 : Sl → AV := fun r => .sl r
noncomputable def r186 (a0 : Sl) (a1 : Int) (H : Hp) : Option (Sl × Hp) := if a1 < 0 then (none)
 else (ck (a0.opn = 0) (if 0 < (w64 (a1 - (w64 ((a0.cap : Int) - (a0.len : Int))))) then (ck (a0.opn = 0) (ck (((0 : Int) ≤ 0 ∧ 0 ≤ (a0.cap : Int) ∧ (a0.cap : Int) ≤ (a0.cap : Int)) ∧ (a0.opn = 0 ∨ a0.opn = 1)) (ck ((a0.cut 1 (0 : Int).toNat ((a0.cap : Int) : Int).toNat) = ⟨true, 0, 0, 0, 0, 0⟩) (ck ((1 : Int) ≤ (w64 (a1 - (w64 ((a0.cap : Int) - (a0.len : Int))))) ∧ (w64 (a1 - (w64 ((a0.cap : Int) - (a0.len : Int))))) ≤ 1048576) (ck (((0 : Int) ≤ 0 ∧ 0 ≤ (a0.len : Int) ∧ (a0.len : Int) ≤ ((⟨false, H.n, 0, (w64 (a1 - (w64 ((a0.cap : Int) - (a0.len : Int)))) : Int).toNat, (w64 (a1 - (w64 ((a0.cap : Int) - (a0.len : Int)))) : Int).toNat, 1⟩ : Sl).cap : Int)) ∧ ((⟨false, H.n, 0, (w64 (a1 - (w64 ((a0.cap : Int) - (a0.len : Int)))) : Int).toNat, (w64 (a1 - (w64 ((a0.cap : Int) - (a0.len : Int)))) : Int).toNat, 1⟩ : Sl).opn = 0 ∨ (⟨false, H.n, 0, (w64 (a1 - (w64 ((a0.cap : Int) - (a0.len : Int)))) : Int).toNat, (w64 (a1 - (w64 ((a0.cap : Int) - (a0.len : Int)))) : Int).toNat, 1⟩ : Sl).opn = 1)) (lt (H.push (.cells (zerosA [.int .i64 0] ((w64 (a1 - (w64 ((a0.cap : Int) - (a0.len : Int)))) : Int).toNat * 1)) false)) fun H9 => some ((⟨false, H.n, 0, (w64 (a1 - (w64 ((a0.cap : Int) - (a0.len : Int)))) : Int).toNat, (w64 (a1 - (w64 ((a0.cap : Int) - (a0.len : Int)))) : Int).toNat, 1⟩ : Sl).cut 1 (0 : Int).toNat ((a0.len : Int) : Int).toNat, H9)))))))
  else (some (a0, H))))
/- 135 slices.Concat[[]int,int] -/
def ret135 : Sl → AV := fun r => .sl r
noncomputable def r135_l1 : Nat → Sl → Sl → Int → Int → Hp → Option (Sl × Hp)
 | 0, _, _, _, _, _ => none
 | k_ + 1, v1, v2, v3, v4, H => if v4 < v3 then (ck ((0 : Int) ≤ v4 ∧ v4 < (v2.len : Int)) ((H.ldSl v2.b (v2.o + (v4 : Int).toNat * 1)).bind fun x3 => (H.lds x3.b x3.o (x3.len * 1)).bind fun x4 => ck (x4.all AV.one = true) ((H.app 1 v1 x4 x3.len).bind fun x6 => r135_l1 k_ x6.1 v2 v3 (w64 (v4 + 1)) x6.2)))
 else (some (v1, H))
noncomputable def r135_l0 : Nat → Sl → Int → Sl → Int → Int → Hp → Option (Sl × Hp)
 | 0, _, _, _, _, _, _ => none
 | k_ + 1, v1, v2, v3, v4, v5, H => if v5 < v4 then (ck ((0 : Int) ≤ v5 ∧ v5 < (v3.len : Int)) ((H.ldSl v3.b (v3.o + (v5 : Int).toNat * 1)).bind fun x3 => if (w64 (v2 + (x3.len : Int))) < 0 then (none)
  else (r135_l0 k_ v1 (w64 (v2 + (x3.len : Int))) v3 v4 (w64 (v5 + 1)) H)))
 else ((r186 ⟨true, 0, 0, 0, 0, 0⟩ v2 H).bind fun p5 => r135_l1 FUEL p5.1 v1 (v1.len : Int) 0 p5.2)
noncomputable def r135 (a0 : Sl) (H : Hp) : Option (Sl × Hp) := r135_l0 FUEL a0 0 a0 (a0.len : Int) 0 H
/- 80 (*congou/chest.state).text -/
def ret80 : ByteArray → AV := fun r => .str r
noncomputable def r80_l1 (app : App) : Nat → Nat → Nat → Sl → Sl → Int → Int → Hp → Option (ByteArray × Hp)
 | 0, _, _, _, _, _, _, _ => none
 | k_ + 1, v1, v2, v3, v4, v5, v6, H => if v6 < v5 then (ck ((0 : Int) ≤ v6 ∧ v6 < (v4.len : Int)) ((H.ldI .i64 v4.b (v4.o + (v6 : Int).toNat * 2)).bind fun x3 => (H.ldI .i64 v4.b ((v4.o + (v6 : Int).toNat * 2) + 1)).bind fun x4 => ((H.push (.cells [.int .i64 0, .int .i64 0] false)).sts H.n 0 [.int .i64 x3, .int .i64 x4]).bind fun H5 => (H5.ldI .i64 H.n (0 + (0 : Int).toNat * 1)).bind fun x6 => (app 33 [.int .i64 x6] H5).bind fun p7 => (p7.1.asStr).bind fun x8 => ck (x8.size + (ByteArray.mk #[44]).size ≤ 9223372036854775807) ((p7.2.ldI .i64 H.n (0 + (1 : Int).toNat * 1)).bind fun x10 => (app 33 [.int .i64 x10] p7.2).bind fun p11 => (p11.1.asStr).bind fun x12 => ck ((x8 ++ (ByteArray.mk #[44])).size + x12.size ≤ 9223372036854775807) ((p11.2.apN 1 v3 [.str ((x8 ++ (ByteArray.mk #[44])) ++ x12)] 1).bind fun x14 => ck (H5.ldI .i64 H.n (0 + (1 : Int).toNat * 1) = some x10) (r80_l1 app k_ v1 v2 x14.1 v4 v5 (w64 (v6 + 1)) x14.2)))))
 else ((callv app (.fn 132 [] [.ptr v2 0]) [.str (ByteArray.mk #[111, 102, 102, 101, 114, 115]), .sl v3] H).bind fun p16 => (app 136 [.ptr v1 0] p16.2).bind fun p17 => (p17.1.asStr).bind fun x18 => some (x18, p17.2))
noncomputable def r80_l0 (app : App) : Nat → Nat → Nat → Nat → Sl → Int → Int → Hp → Option (ByteArray × Hp)
 | 0, _, _, _, _, _, _, _ => none
 | k_ + 1, v1, v2, v3, v4, v5, v6, H => if v6 < v5 then (ck ((0 : Int) ≤ v6 ∧ v6 < (v4.len : Int)) ((H.ldStr v4.b (v4.o + (v6 : Int).toNat * 2)).bind fun x3 => (H.ldI .i64 v4.b ((v4.o + (v6 : Int).toNat * 2) + 1)).bind fun x4 => ((H.push (.cells [.str (ByteArray.mk #[]), .int .i64 0] false)).sts H.n 0 [.str x3, .int .i64 x4]).bind fun H5 => (H5.ldStr H.n (0 + 0)).bind fun x6 => ck ((ByteArray.mk #[108, 101, 97, 102, 32]).size + x6.size ≤ 9223372036854775807) (ck (((ByteArray.mk #[108, 101, 97, 102, 32]) ++ x6).size + (ByteArray.mk #[32]).size ≤ 9223372036854775807) ((H5.ldI .i64 H.n (0 + 1)).bind fun x9 => (app 33 [.int .i64 x9] H5).bind fun p10 => (p10.1.asStr).bind fun x11 => ck ((((ByteArray.mk #[108, 101, 97, 102, 32]) ++ x6) ++ (ByteArray.mk #[32])).size + x11.size ≤ 9223372036854775807) (ck (((((ByteArray.mk #[108, 101, 97, 102, 32]) ++ x6) ++ (ByteArray.mk #[32])) ++ x11).size + (ByteArray.mk #[10]).size ≤ 9223372036854775807) ((app 131 [.ptr v3 0, .str (((((ByteArray.mk #[108, 101, 97, 102, 32]) ++ x6) ++ (ByteArray.mk #[32])) ++ x11) ++ (ByteArray.mk #[10]))] p10.2).bind fun p14 => (p14.1.asT).bind fun x15 => ck (x15.length = 2) ((x15[0]?).bind fun x17 => (x17.asI .i64).bind fun x18 => (x15[1]?).bind fun x19 => ck (p10.2.ldStr H.n (0 + 0) = some x6) (r80_l0 app k_ v1 v2 v3 v4 v5 (w64 (v6 + 1)) p14.2))))))))
 else ((H.ldSl v1 (v2 + 1)).bind fun x21 => (r133 v1 v2 x21 H).bind fun p22 => (callv app (.fn 132 [] [.ptr v3 0]) [.str (ByteArray.mk #[111, 114, 100, 101, 114, 115]), .sl p22.1] p22.2).bind fun p23 => (r135 ⟨false, p23.2.n, 0, 2, 2, 0⟩ (p23.2.push (.cells [.sl ⟨false, v1, ((v2 + 2) + (0 : Int).toNat * 2) + (0 : Int).toNat * 1, (((2 : Nat) : Int) : Int).toNat - (0 : Int).toNat, 2 - (0 : Int).toNat, 0⟩, .sl ⟨false, v1, ((v2 + 2) + (1 : Int).toNat * 2) + (0 : Int).toNat * 1, (((2 : Nat) : Int) : Int).toNat - (0 : Int).toNat, 2 - (0 : Int).toNat, 0⟩] false))).bind fun p24 => (r134 app p24.1 p24.2).bind fun p25 => (callv app (.fn 132 [] [.ptr v3 0]) [.str (ByteArray.mk #[116, 97, 115, 116, 101, 115]), .sl p25.1] p25.2).bind fun p26 => (p26.2.ldSl v1 (v2 + 6)).bind fun x27 => r80_l1 app FUEL v3 v3 ⟨true, 0, 0, 0, 0, 0⟩ x27 (x27.len : Int) 0 p26.2)
noncomputable def r80 (app : App) (a0b a0o : Nat) (H : Hp) : Option (ByteArray × Hp) := lt (H.push (.bld none 0)) fun H1 => (H1.ldSl a0b (a0o + 0)).bind fun x2 => r80_l0 app FUEL a0b a0o H.n x2 (x2.len : Int) 0 H1
/- 41 (*congou/chest.Chest).State -/
def ret41 : ByteArray → AV := fun r => .str r
noncomputable def r41 (app : App) (a0b a0o : Nat) (H : Hp) : Option (ByteArray × Hp) := (r60 a0b a0o H).bind fun p1 => if p1.1 = true then (some ((ByteArray.mk #[]), p1.2))
 else ((r61 a0b a0o p1.2).bind fun p3 => (r80 app p3.1.1 p3.1.2 p3.2).bind fun p4 => some (p4.1, p4.2))
/- 31 congou/congoulaw10.stocks -/
def ret31 : Int × Int × Bool → AV := fun r => .tup [.int .i64 r.1, .int .i64 r.2.1, .bool r.2.2]
noncomputable def r31_j1 (app : App) (kt0 : Int → Int → Sl → Int → Int → Hp → Option ((Int × Int × Bool) × Hp)) (v1 v2 v3 : Int) (v4 : Sl) (v5 v6 : Int) (v7 : Bool) (H : Hp) : Option ((Int × Int × Bool) × Hp) := if v7 = true then (some ((0, 0, false), H))
 else (kt0 (w64 (v1 + v3)) (w64 (v2 + 1)) v4 v5 (w64 (v6 + 1)) H)
noncomputable def r31_l0 (app : App) : Nat → Int → Int → Sl → Int → Int → Hp → Option ((Int × Int × Bool) × Hp)
 | 0, _, _, _, _, _, _ => none
 | k_ + 1, v1, v2, v3, v4, v5, H => if v5 < v4 then (ck ((0 : Int) ≤ v5 ∧ v5 < (v3.len : Int)) ((H.ldStr v3.b (v3.o + (v5 : Int).toNat * 1)).bind fun x3 => (r52 x3 (ByteArray.mk #[32]) H).bind fun p4 => ck ((0 : Int) ≤ 0 ∧ 0 < (p4.1.len : Int)) ((p4.2.ldStr p4.1.b (p4.1.o + (0 : Int).toNat * 1)).bind fun x6 => if (strEq x6 (ByteArray.mk #[108, 101, 97, 102])) = true then (if (p4.1.len : Int) ≠ 3 then (some ((0, 0, false), p4.2))
   else (ck ((0 : Int) ≤ 2 ∧ 2 < (p4.1.len : Int)) ((p4.2.ldStr p4.1.b (p4.1.o + (2 : Int).toNat * 1)).bind fun x10 => (app 53 [.str x10] p4.2).bind fun p11 => (p11.1.asT).bind fun x12 => ck (x12.length = 2) ((x12[0]?).bind fun x14 => (x14.asI .i64).bind fun x15 => (x12[1]?).bind fun x16 => (AV.ifc x16).bind fun x17 => if x17 = true then (r31_j1 app (r31_l0 app k_) v1 v2 x15 v3 v4 v5 true p11.2)
    else (if x15 < 0 then (r31_j1 app (r31_l0 app k_) v1 v2 x15 v3 v4 v5 true p11.2)
     else (r31_j1 app (r31_l0 app k_) v1 v2 x15 v3 v4 v5 (decide (20 < x15)) p11.2))))))
  else (some ((v1, v2, true), p4.2)))))
 else (some ((v1, v2, true), H))
noncomputable def r31 (app : App) (a0b a0o : Nat) (H : Hp) : Option ((Int × Int × Bool) × Hp) := (r41 app a0b a0o H).bind fun p1 => (r52 p1.1 (ByteArray.mk #[10]) p1.2).bind fun p2 => r31_l0 app FUEL 0 0 p2.1 (p2.1.len : Int) 0 p2.2
/- 62 (*congou/chest.state).ask -/
def ret62 : ByteArray × Int → AV := fun r => .tup [.str r.1, .int .i64 r.2]
noncomputable def r62_j0 (app : App) (v1 v2 v3 : ByteArray) (v4 : AV) (H : Hp) : Option ((ByteArray × Int) × Hp) := (r108 app v3 v1 H).bind fun p1 => ((p1.2.push (.cells [.sl ⟨true, 0, 0, 0, 0, 0⟩, .sl ⟨true, 0, 0, 0, 0, 0⟩] false)).sts p1.2.n 0 [.sl p1.1.1, .sl p1.1.2.1]).bind fun H2 => if p1.1.2.2 = true then ((H2.ldSl p1.2.n 0).bind fun x4 => (H2.ldSl p1.2.n (0 + 1)).bind fun x5 => (callv app v4 [.agg [.sl x4, .sl x5]] H2).bind fun p6 => (p6.1.asT).bind fun x7 => ck (x7.length = 2) ((x7[0]?).bind fun x9 => (x9.asSl).bind fun x10 => (x7[1]?).bind fun x11 => (x11.asI .i64).bind fun x12 => if x12 ≠ 0 then (some (((ByteArray.mk #[]), x12), p6.2))
  else (((p6.2.push (.cells [.str v2] false)).lds x10.b x10.o (x10.len * 1)).bind fun x14 => ck (x14.all AV.one = true) (((p6.2.push (.cells [.str v2] false)).app 1 ⟨false, p6.2.n, 0, 1, 1, 0⟩ x14 x10.len).bind fun x16 => (app 109 [.sl x16.1, .str (ByteArray.mk #[32])] x16.2).bind fun p17 => (p17.1.asStr).bind fun x18 => some ((x18, 0), p17.2)))))
 else (some (((ByteArray.mk #[]), 3), H2))
noncomputable def r62 (app : App) (a0b a0o : Nat) (a1 : ByteArray) (H : Hp) : Option ((ByteArray × Int) × Hp) := (r97 a1 (ByteArray.mk #[32]) H).bind fun p1 => if (strEq p1.1.1 (ByteArray.mk #[103, 97, 112])) = true then (r62_j0 app a1 p1.1.1 (ByteArray.mk #[]) (.fn 98 [.ptr a0b a0o] []) p1.2)
 else (if (strEq p1.1.1 (ByteArray.mk #[104, 101, 97, 118, 121])) = true then (r62_j0 app a1 p1.1.1 (ByteArray.mk #[100]) (.fn 99 [.ptr a0b a0o] []) p1.2)
  else (if (strEq p1.1.1 (ByteArray.mk #[111, 102, 116, 101, 110])) = true then (r62_j0 app a1 p1.1.1 (ByteArray.mk #[110]) (.fn 100 [.ptr a0b a0o] []) p1.2)
   else (if (strEq p1.1.1 (ByteArray.mk #[116, 97, 105, 108])) = true then (r62_j0 app a1 p1.1.1 (ByteArray.mk #[]) (.fn 101 [.ptr a0b a0o] []) p1.2)
    else (if (strEq p1.1.1 (ByteArray.mk #[102, 97, 105, 114])) = true then (r62_j0 app a1 p1.1.1 (ByteArray.mk #[100, 100]) (.fn 102 [.ptr a0b a0o] []) p1.2)
     else (if (strEq p1.1.1 (ByteArray.mk #[114, 111, 117, 110, 100])) = true then (r62_j0 app a1 p1.1.1 (ByteArray.mk #[100]) (.fn 103 [] []) p1.2)
      else (if (strEq p1.1.1 (ByteArray.mk #[99, 117, 114, 118, 101])) = true then (r62_j0 app a1 p1.1.1 (ByteArray.mk #[100]) (.fn 104 [] []) p1.2)
       else (if (strEq p1.1.1 (ByteArray.mk #[115, 113, 117, 97, 114, 101])) = true then (r62_j0 app a1 p1.1.1 (ByteArray.mk #[100, 100, 100, 100]) (.fn 105 [] []) p1.2)
        else (if (strEq p1.1.1 (ByteArray.mk #[114, 111, 119])) = true then (r62_j0 app a1 p1.1.1 (ByteArray.mk #[100, 100]) (.fn 106 [] []) p1.2)
         else (if (strEq p1.1.1 (ByteArray.mk #[108, 101, 97, 115, 116])) = true then (r62_j0 app a1 p1.1.1 (ByteArray.mk #[100]) (.fn 107 [] []) p1.2)
          else (some (((ByteArray.mk #[]), 3), p1.2)))))))))))
/- 14 (*congou/chest.Chest).Ask -/
def ret14 : ByteArray × Int → AV := fun r => .tup [.str r.1, .int .i64 r.2]
noncomputable def r14 (app : App) (a0b a0o : Nat) (a1 : ByteArray) (H : Hp) : Option ((ByteArray × Int) × Hp) := (r60 a0b a0o H).bind fun p1 => if p1.1 = true then (some (((ByteArray.mk #[]), 1), p1.2))
 else ((r61 a0b a0o p1.2).bind fun p3 => (r62 app p3.1.1 p3.1.2 a1 p3.2).bind fun p4 => some ((p4.1.1, p4.1.2), p4.2))
/- 180 internal/stringslite.HasPrefix -/
def ret180 : Bool → AV := fun r => .bool r
noncomputable def r180 (a0 a1 : ByteArray) (H : Hp) : Option (Bool × Hp) := if (a1.size : Int) ≤ (a0.size : Int) then (ck ((0 : Int) ≤ 0 ∧ 0 ≤ (a1.size : Int) ∧ (a1.size : Int) ≤ (a0.size : Int)) (some ((strEq (a0.extract (0 : Int).toNat ((a1.size : Int) : Int).toNat) a1), H)))
 else (some (false, H))
/- 128 internal/stringslite.TrimPrefix -/
def ret128 : ByteArray → AV := fun r => .str r
noncomputable def r128 (a0 a1 : ByteArray) (H : Hp) : Option (ByteArray × Hp) := (r180 a0 a1 H).bind fun p1 => if p1.1 = true then (ck ((0 : Int) ≤ (a1.size : Int) ∧ (a1.size : Int) ≤ (a0.size : Int) ∧ (a0.size : Int) ≤ (a0.size : Int)) (some (a0.extract ((a1.size : Int) : Int).toNat ((a0.size : Int) : Int).toNat, p1.2)))
 else (some (a0, p1.2))
/- 77 strings.TrimPrefix -/
def ret77 : ByteArray → AV := fun r => .str r
noncomputable def r77 (a0 a1 : ByteArray) (H : Hp) : Option (ByteArray × Hp) := (r128 a0 a1 H).bind fun p1 => some (p1.1, p1.2)
/- 32 congou/congoulaw10.gap -/
def ret32 : Int × Bool → AV := fun r => .tup [.int .i64 r.1, .bool r.2]
noncomputable def r32 (app : App) (a0b a0o : Nat) (H : Hp) : Option ((Int × Bool) × Hp) := (r14 app a0b a0o (ByteArray.mk #[103, 97, 112]) H).bind fun p1 => (r77 p1.1.1 (ByteArray.mk #[103, 97, 112, 32]) p1.2).bind fun p2 => (app 53 [.str p2.1] p2.2).bind fun p3 => (p3.1.asT).bind fun x4 => ck (x4.length = 2) ((x4[0]?).bind fun x6 => (x6.asI .i64).bind fun x7 => (x4[1]?).bind fun x8 => if p1.1.2 = 0 then ((AV.ifc x8).bind fun x10 => if x10 = true then (some ((x7, false), p3.2))
  else (some ((x7, (decide (0 ≤ x7))), p3.2)))
 else (some ((x7, false), p3.2)))
/- 38 (*congou/chest.Chest).At -/
def ret38 : Int → AV := fun r => .int .i64 r
noncomputable def r38 (a0b a0o : Nat) (H : Hp) : Option (Int × Hp) := (r60 a0b a0o H).bind fun p1 => if p1.1 = true then (some (0, p1.2))
 else ((p1.2.ldI .i64 a0b (a0o + 1)).bind fun x3 => some (x3, p1.2))
/- 34 congou/congoulaw10.awake -/
def ret34 : Bool → AV := fun r => .bool r
noncomputable def r34 (app : App) (H : Hp) : Option (Bool × Hp) := (r47 H).bind fun p1 => (r20 app p1.1.1 p1.1.2 (ByteArray.mk #[108, 101, 97, 102, 32, 97, 109, 97, 32, 51]) p1.2).bind fun p2 => (r14 app p1.1.1 p1.1.2 (ByteArray.mk #[103, 97, 112]) p2.2).bind fun p3 => if p2.1.2 = 0 then (if p3.1.2 = 0 then (if (strEq p2.1.1 (ByteArray.mk #[108, 101, 97, 102])) = true then (if (strEq p3.1.1 (ByteArray.mk #[103, 97, 112, 32, 48])) = true then ((r38 p1.1.1 p1.1.2 p3.2).bind fun p8 => some ((decide (p8.1 = 1)), p8.2))
    else (some (false, p3.2)))
   else (some (false, p3.2)))
  else (some (false, p3.2)))
 else (some (false, p3.2))
/- 6 congou/congoulaw10.ChestGives -/
def ret6 : Bool → AV := fun r => .bool r
noncomputable def r6_j2 (app : App) (v1 : ByteArray) (v2 v3 : Nat) (v4 : Int) (H : Hp) : Option (Bool × Hp) := ck ((ByteArray.mk #[111, 114, 100, 101, 114, 32]).size + v1.size ≤ 9223372036854775807) ((r20 app v2 v3 ((ByteArray.mk #[111, 114, 100, 101, 114, 32]) ++ v1) H).bind fun p2 => (r31 app v2 v3 p2.2).bind fun p3 => if p3.1.2.2 = true then (if p2.1.2 = 0 then (if p3.1.1 = (w64 (v4 - 1)) then ((app 34 [] p3.2).bind fun p7 => (p7.1.asB).bind fun x8 => some (x8, p7.2))
   else (if p2.1.2 ≠ 0 then (if p3.1.1 = v4 then ((app 34 [] p3.2).bind fun p11 => (p11.1.asB).bind fun x12 => some (x12, p11.2))
     else (some (false, p3.2)))
    else (some (false, p3.2))))
  else (if p2.1.2 ≠ 0 then (if p3.1.1 = v4 then ((app 34 [] p3.2).bind fun p15 => (p15.1.asB).bind fun x16 => some (x16, p15.2))
    else (some (false, p3.2)))
   else (some (false, p3.2))))
 else (some (false, p3.2)))
noncomputable def r6_j0 (app : App) (v1 : ByteArray) (v2 v3 : Nat) (v4 : Int) (v5 : Bool) (H : Hp) : Option (Bool × Hp) := if v5 = true then (some (false, H))
 else (r6_j2 app v1 v2 v3 v4 H)
noncomputable def r6_j1 (app : App) (v1 v2 : ByteArray) (v3 : Int) (v4 v5 : Nat) (v6 v7 v8 : Int) (v9 : Bool) (H : Hp) : Option (Bool × Hp) := if v9 = true then (some (false, H))
 else (if v8 = 0 then ((r32 app v4 v5 H).bind fun p3 => if p3.1.2 = true then (if v3 < 1 then (r6_j0 app v1 v4 v5 v6 true p3.2)
    else (if (strEq v1 v2) = true then (r6_j0 app v1 v4 v5 v6 true p3.2)
     else (r6_j0 app v1 v4 v5 v6 (decide (v7 < p3.1.1)) p3.2)))
   else (r6_j0 app v1 v4 v5 v6 true p3.2))
  else (r6_j2 app v1 v4 v5 v6 H))
noncomputable def r6 (app : App) (a0 : Sl) (a1 a2 : ByteArray) (a3 : Int) (H : Hp) : Option (Bool × Hp) := (r30 app a0 H).bind fun p1 => (r31 app p1.1.1 p1.1.2 p1.2).bind fun p2 => if p2.1.2.2 = true then ((r32 app p1.1.1 p1.1.2 p2.2).bind fun p4 => if (p4.1.2 == (decide (0 < p2.1.2.1))) = true then (ck ((ByteArray.mk #[103, 105, 118, 101, 32]).size + a1.size ≤ 9223372036854775807) (ck (((ByteArray.mk #[103, 105, 118, 101, 32]) ++ a1).size + (ByteArray.mk #[32]).size ≤ 9223372036854775807) (ck ((((ByteArray.mk #[103, 105, 118, 101, 32]) ++ a1) ++ (ByteArray.mk #[32])).size + a2.size ≤ 9223372036854775807) (ck (((((ByteArray.mk #[103, 105, 118, 101, 32]) ++ a1) ++ (ByteArray.mk #[32])) ++ a2).size + (ByteArray.mk #[32]).size ≤ 9223372036854775807) ((app 33 [.int .i64 (w64 (Int.tmod (IntKind.wrap .u64 (a3)) 12))] p4.2).bind fun p10 => (p10.1.asStr).bind fun x11 => ck ((((((ByteArray.mk #[103, 105, 118, 101, 32]) ++ a1) ++ (ByteArray.mk #[32])) ++ a2) ++ (ByteArray.mk #[32])).size + x11.size ≤ 9223372036854775807) ((r20 app p1.1.1 p1.1.2 ((((((ByteArray.mk #[103, 105, 118, 101, 32]) ++ a1) ++ (ByteArray.mk #[32])) ++ a2) ++ (ByteArray.mk #[32])) ++ x11) p10.2).bind fun p13 => (r31 app p1.1.1 p1.1.2 p13.2).bind fun p14 => if p14.1.2.2 = true then (r6_j1 app a1 a2 (w64 (Int.tmod (IntKind.wrap .u64 (a3)) 12)) p1.1.1 p1.1.2 p2.1.1 p4.1.1 p13.1.2 (decide (p14.1.1 ≠ p2.1.1)) p14.2)
   else (r6_j1 app a1 a2 (w64 (Int.tmod (IntKind.wrap .u64 (a3)) 12)) p1.1.1 p1.1.2 p2.1.1 p4.1.1 p13.1.2 true p14.2)))))))
  else (some (false, p4.2)))
 else (some (false, p2.2))
/- 91 congou/counts.isSums -/
def ret91 : Bool → AV := fun r => .bool r
noncomputable def r91_j1 (kt0 : Int → Sl → Int → Int → Hp → Option (Bool × Hp)) (v1 v2 : Int) (v3 : Sl) (v4 v5 : Int) (v6 : Bool) (H : Hp) : Option (Bool × Hp) := if v6 = true then (some (false, H))
 else (kt0 (w64 (v1 + v2)) v3 v4 (w64 (v5 + 1)) H)
noncomputable def r91_l0 : Nat → Int → Sl → Int → Int → Hp → Option (Bool × Hp)
 | 0, _, _, _, _, _ => none
 | k_ + 1, v1, v2, v3, v4, H => if v4 < v3 then (ck ((0 : Int) ≤ v4 ∧ v4 < (v2.len : Int)) ((H.ldI .i64 v2.b (v2.o + (v4 : Int).toNat * 1)).bind fun x3 => if x3 < 0 then (r91_j1 (r91_l0 k_) v1 x3 v2 v3 v4 true H)
  else (r91_j1 (r91_l0 k_) v1 x3 v2 v3 v4 (decide (16 < x3)) H)))
 else (some ((decide (v1 ≤ 16)), H))
noncomputable def r91 (a0 : Sl) (H : Hp) : Option (Bool × Hp) := r91_l0 FUEL 0 a0 (a0.len : Int) 0 H
/- 54 (congou/counts.table).valid -/
def ret54 : Bool → AV := fun r => .bool r
noncomputable def r54_l3 (kt1 : Sl → Int → Sl → Int → Int → Hp → Option (Bool × Hp)) : Nat → Sl → Int → Sl → Int → Int → Sl → Int → Int → Hp → Option (Bool × Hp)
 | 0, _, _, _, _, _, _, _, _, _ => none
 | k_ + 1, v1, v2, v3, v4, v5, v6, v7, v8, H => if v8 < v7 then (ck ((0 : Int) ≤ v8 ∧ v8 < (v6.len : Int)) ((H.ldI .i64 v6.b (v6.o + (v8 : Int).toNat * 1)).bind fun x3 => r54_l3 kt1 k_ v1 (w64 (v2 + x3)) v3 v4 v5 v6 v7 (w64 (v8 + 1)) H))
 else (kt1 v1 v2 v3 v4 (w64 (v5 + 1)) H)
noncomputable def r54_j2 (kt1 : Sl → Int → Sl → Int → Int → Hp → Option (Bool × Hp)) (v1 : Sl) (v2 : Int) (v3 v4 : Sl) (v5 v6 : Int) (v7 : Bool) (H : Hp) : Option (Bool × Hp) := if v7 = true then (some (false, H))
 else (r54_l3 kt1 FUEL v1 v2 v4 v5 v6 v3 (v3.len : Int) 0 H)
noncomputable def r54_l1 : Nat → Sl → Int → Sl → Int → Int → Hp → Option (Bool × Hp)
 | 0, _, _, _, _, _, _ => none
 | k_ + 1, v1, v2, v3, v4, v5, H => if v5 < v4 then (ck ((0 : Int) ≤ v5 ∧ v5 < (v3.len : Int)) ((H.ldSl v3.b (v3.o + (v5 : Int).toNat * 1)).bind fun x3 => if (x3.len : Int) < 1 then (r54_j2 (r54_l1 k_) v1 v2 x3 v3 v4 v5 true H)
  else (if 3 < (x3.len : Int) then (r54_j2 (r54_l1 k_) v1 v2 x3 v3 v4 v5 true H)
   else (ck ((0 : Int) ≤ 0 ∧ 0 < (v1.len : Int)) ((H.ldSl v1.b (v1.o + (0 : Int).toNat * 1)).bind fun x7 => if (x3.len : Int) ≠ (x7.len : Int) then (r54_j2 (r54_l1 k_) v1 v2 x3 v3 v4 v5 true H)
    else ((r91 x3 H).bind fun p9 => r54_j2 (r54_l1 k_) v1 v2 x3 v3 v4 v5 (!p9.1) p9.2))))))
 else (some ((decide (v2 ≤ 16)), H))
noncomputable def r54_j0 (v1 : Sl) (v2 : Bool) (H : Hp) : Option (Bool × Hp) := if v2 = true then (some (false, H))
 else (r54_l1 FUEL v1 0 v1 (v1.len : Int) 0 H)
noncomputable def r54 (a0 : Sl) (H : Hp) : Option (Bool × Hp) := if (a0.len : Int) < 1 then (r54_j0 a0 true H)
 else (r54_j0 a0 (decide (3 < (a0.len : Int))) H)
/- 59 congou/counts.choose -/
def ret59 : Int → AV := fun r => .int .i64 r
noncomputable def r59_l1 (kt0 : Int → Int → Sl → Int → Int → Hp → Option (Int × Hp)) : Nat → Int → Int → Int → Int → Sl → Int → Int → Hp → Option (Int × Hp)
 | 0, _, _, _, _, _, _, _, _ => none
 | k_ + 1, v1, v2, v3, v4, v5, v6, v7, H => if v4 ≤ v3 then (ck (v4 ≠ 0) (r59_l1 kt0 k_ (w64 (Int.tdiv (w64 (v1 * (w64 (v2 + 1)))) v4)) (w64 (v2 + 1)) v3 (w64 (v4 + 1)) v5 v6 v7 H))
 else (kt0 v1 v2 v5 v6 (w64 (v7 + 1)) H)
noncomputable def r59_l0 : Nat → Int → Int → Sl → Int → Int → Hp → Option (Int × Hp)
 | 0, _, _, _, _, _, _ => none
 | k_ + 1, v1, v2, v3, v4, v5, H => if v5 < v4 then (ck ((0 : Int) ≤ v5 ∧ v5 < (v3.len : Int)) ((H.ldI .i64 v3.b (v3.o + (v5 : Int).toNat * 1)).bind fun x3 => r59_l1 (r59_l0 k_) FUEL v1 v2 x3 1 v3 v4 v5 H))
 else (some (v1, H))
noncomputable def r59 (a0 : Sl) (H : Hp) : Option (Int × Hp) := r59_l0 FUEL 1 0 a0 (a0.len : Int) 0 H
end Go.Lt.P10
