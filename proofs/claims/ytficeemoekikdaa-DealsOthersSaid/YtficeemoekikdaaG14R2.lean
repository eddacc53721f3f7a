/- PRINTED BY A PROGRAM OF OURS: what each function that 'DealsOthers' reaches computes on the abstract heap, and that the translated code does just that. Nothing is asked of the input. -/
import Derived.Test.YtficeemoekikdaaG14R1
set_option linter.unusedVariables false
set_option linter.unusedSimpArgs false
set_option maxRecDepth 100000
set_option maxHeartbeats 4000000
namespace Go.Lt.P5
open Go Go.Lt Go.Proofs
/- 39 congou/congoulaw05.rules -/
def ret39 : Int × Int × Int × Int × Int × Int × Int × Int × Int × Int × Int × Int × Bool × Bool → AV := fun r => .tup [.agg [.int .i64 r.1, .int .i64 r.2.1, .int .i64 r.2.2.1, .int .i64 r.2.2.2.1, .int .i64 r.2.2.2.2.1, .int .i64 r.2.2.2.2.2.1, .int .i64 r.2.2.2.2.2.2.1, .int .i64 r.2.2.2.2.2.2.2.1, .int .i64 r.2.2.2.2.2.2.2.2.1, .int .i64 r.2.2.2.2.2.2.2.2.2.1, .int .i64 r.2.2.2.2.2.2.2.2.2.2.1, .int .i64 r.2.2.2.2.2.2.2.2.2.2.2.1], .bool r.2.2.2.2.2.2.2.2.2.2.2.2.1, .bool r.2.2.2.2.2.2.2.2.2.2.2.2.2]
noncomputable def r39_j0 (app : App) (v1 : Nat) (v2 : Nat) (v3 : Int) (v4 : Nat) (v5 : Nat) (v6 : Nat) (v7 : Bool) (H : Hp) : Option ((Int × Int × Int × Int × Int × Int × Int × Int × Int × Int × Int × Int × Bool × Bool) × Hp) :=
  if v7 = true then
    ((H.ldI .i64 v6 0).bind fun x2 =>
    (H.ldI .i64 v6 (0 + 1)).bind fun x3 =>
    (H.ldI .i64 v6 (0 + 2)).bind fun x4 =>
    (H.ldI .i64 v6 (0 + 3)).bind fun x5 =>
    (H.ldI .i64 v6 (0 + 4)).bind fun x6 =>
    (H.ldI .i64 v6 (0 + 5)).bind fun x7 =>
    (H.ldI .i64 v6 (0 + 6)).bind fun x8 =>
    (H.ldI .i64 v6 (0 + 7)).bind fun x9 =>
    (H.ldI .i64 v6 (0 + 8)).bind fun x10 =>
    (H.ldI .i64 v6 (0 + 9)).bind fun x11 =>
    (H.ldI .i64 v6 (0 + 10)).bind fun x12 =>
    (H.ldI .i64 v6 (0 + 11)).bind fun x13 =>
    (H.sts v1 0 [.int .i64 x2, .int .i64 x3, .int .i64 x4, .int .i64 x5, .int .i64 x6, .int .i64 x7, .int .i64 x8, .int .i64 x9, .int .i64 x10, .int .i64 x11, .int .i64 x12, .int .i64 x13]).bind fun H14 =>
    (H14.ldI .i64 v1 0).bind fun x15 =>
    (H14.ldI .i64 v1 (0 + 1)).bind fun x16 =>
    (H14.ldI .i64 v1 (0 + 2)).bind fun x17 =>
    (H14.ldI .i64 v1 (0 + 3)).bind fun x18 =>
    (H14.ldI .i64 v1 (0 + 4)).bind fun x19 =>
    (H14.ldI .i64 v1 (0 + 5)).bind fun x20 =>
    (H14.ldI .i64 v1 (0 + 6)).bind fun x21 =>
    (H14.ldI .i64 v1 (0 + 7)).bind fun x22 =>
    (H14.ldI .i64 v1 (0 + 8)).bind fun x23 =>
    (H14.ldI .i64 v1 (0 + 9)).bind fun x24 =>
    (H14.ldI .i64 v1 (0 + 10)).bind fun x25 =>
    (H14.ldI .i64 v1 (0 + 11)).bind fun x26 =>
    some ((x15, x16, x17, x18, x19, x20, x21, x22, x23, x24, x25, x26, false, false), H14))
  else
    (if v3 ≠ 0 then
      ((H.ldI .i64 v6 0).bind fun x28 =>
      (H.ldI .i64 v6 (0 + 1)).bind fun x29 =>
      (H.ldI .i64 v6 (0 + 2)).bind fun x30 =>
      (H.ldI .i64 v6 (0 + 3)).bind fun x31 =>
      (H.ldI .i64 v6 (0 + 4)).bind fun x32 =>
      (H.ldI .i64 v6 (0 + 5)).bind fun x33 =>
      (H.ldI .i64 v6 (0 + 6)).bind fun x34 =>
      (H.ldI .i64 v6 (0 + 7)).bind fun x35 =>
      (H.ldI .i64 v6 (0 + 8)).bind fun x36 =>
      (H.ldI .i64 v6 (0 + 9)).bind fun x37 =>
      (H.ldI .i64 v6 (0 + 10)).bind fun x38 =>
      (H.ldI .i64 v6 (0 + 11)).bind fun x39 =>
      if v3 = 4 then
        ((H.sts v1 0 [.int .i64 x28, .int .i64 x29, .int .i64 x30, .int .i64 x31, .int .i64 x32, .int .i64 x33, .int .i64 x34, .int .i64 x35, .int .i64 x36, .int .i64 x37, .int .i64 x38, .int .i64 x39]).bind fun H41 =>
        (H41.ldI .i64 v1 0).bind fun x42 =>
        (H41.ldI .i64 v1 (0 + 1)).bind fun x43 =>
        (H41.ldI .i64 v1 (0 + 2)).bind fun x44 =>
        (H41.ldI .i64 v1 (0 + 3)).bind fun x45 =>
        (H41.ldI .i64 v1 (0 + 4)).bind fun x46 =>
        (H41.ldI .i64 v1 (0 + 5)).bind fun x47 =>
        (H41.ldI .i64 v1 (0 + 6)).bind fun x48 =>
        (H41.ldI .i64 v1 (0 + 7)).bind fun x49 =>
        (H41.ldI .i64 v1 (0 + 8)).bind fun x50 =>
        (H41.ldI .i64 v1 (0 + 9)).bind fun x51 =>
        (H41.ldI .i64 v1 (0 + 10)).bind fun x52 =>
        (H41.ldI .i64 v1 (0 + 11)).bind fun x53 =>
        some ((x42, x43, x44, x45, x46, x47, x48, x49, x50, x51, x52, x53, false, true), H41))
      else
        ((H.sts v1 0 [.int .i64 x28, .int .i64 x29, .int .i64 x30, .int .i64 x31, .int .i64 x32, .int .i64 x33, .int .i64 x34, .int .i64 x35, .int .i64 x36, .int .i64 x37, .int .i64 x38, .int .i64 x39]).bind fun H54 =>
        (H54.ldI .i64 v1 0).bind fun x55 =>
        (H54.ldI .i64 v1 (0 + 1)).bind fun x56 =>
        (H54.ldI .i64 v1 (0 + 2)).bind fun x57 =>
        (H54.ldI .i64 v1 (0 + 3)).bind fun x58 =>
        (H54.ldI .i64 v1 (0 + 4)).bind fun x59 =>
        (H54.ldI .i64 v1 (0 + 5)).bind fun x60 =>
        (H54.ldI .i64 v1 (0 + 6)).bind fun x61 =>
        (H54.ldI .i64 v1 (0 + 7)).bind fun x62 =>
        (H54.ldI .i64 v1 (0 + 8)).bind fun x63 =>
        (H54.ldI .i64 v1 (0 + 9)).bind fun x64 =>
        (H54.ldI .i64 v1 (0 + 10)).bind fun x65 =>
        (H54.ldI .i64 v1 (0 + 11)).bind fun x66 =>
        some ((x55, x56, x57, x58, x59, x60, x61, x62, x63, x64, x65, x66, false, (decide (v3 = 2))), H54)))
    else
      ((H.ldI .i64 v6 0).bind fun x67 =>
      (H.ldI .i64 v6 (0 + 1)).bind fun x68 =>
      (H.ldI .i64 v6 (0 + 2)).bind fun x69 =>
      (H.ldI .i64 v6 (0 + 3)).bind fun x70 =>
      (H.ldI .i64 v6 (0 + 4)).bind fun x71 =>
      (H.ldI .i64 v6 (0 + 5)).bind fun x72 =>
      (H.ldI .i64 v6 (0 + 6)).bind fun x73 =>
      (H.ldI .i64 v6 (0 + 7)).bind fun x74 =>
      (H.ldI .i64 v6 (0 + 8)).bind fun x75 =>
      (H.ldI .i64 v6 (0 + 9)).bind fun x76 =>
      (H.ldI .i64 v6 (0 + 10)).bind fun x77 =>
      (H.ldI .i64 v6 (0 + 11)).bind fun x78 =>
      (H.ldI .i64 v2 0).bind fun x79 =>
      (H.ldI .i64 v2 (0 + 1)).bind fun x80 =>
      (H.ldI .i64 v2 (0 + 2)).bind fun x81 =>
      (H.ldI .i64 v2 (0 + 3)).bind fun x82 =>
      (r42 x79 x80 x81 x82 H).bind fun p83 =>
      if p83.1 = true then
        ((p83.2.ldI .i64 v4 0).bind fun x85 =>
        (p83.2.ldI .i64 v4 (0 + 1)).bind fun x86 =>
        (p83.2.ldI .i64 v4 (0 + 2)).bind fun x87 =>
        (p83.2.ldI .i64 v4 (0 + 3)).bind fun x88 =>
        (r42 x85 x86 x87 x88 p83.2).bind fun p89 =>
        if p89.1 = true then
          ((p89.2.ldI .i64 v5 0).bind fun x91 =>
          (p89.2.ldI .i64 v5 (0 + 1)).bind fun x92 =>
          (p89.2.ldI .i64 v5 (0 + 2)).bind fun x93 =>
          (p89.2.ldI .i64 v5 (0 + 3)).bind fun x94 =>
          (r42 x91 x92 x93 x94 p89.2).bind fun p95 =>
          (p95.2.sts v1 0 [.int .i64 x67, .int .i64 x68, .int .i64 x69, .int .i64 x70, .int .i64 x71, .int .i64 x72, .int .i64 x73, .int .i64 x74, .int .i64 x75, .int .i64 x76, .int .i64 x77, .int .i64 x78]).bind fun H96 =>
          ck (p83.2.ldI .i64 v6 0 = some x67) (
          ck (p83.2.ldI .i64 v6 (0 + 1) = some x68) (
          ck (p83.2.ldI .i64 v6 (0 + 2) = some x69) (
          ck (p83.2.ldI .i64 v6 (0 + 3) = some x70) (
          ck (p83.2.ldI .i64 v6 (0 + 4) = some x71) (
          ck (p83.2.ldI .i64 v6 (0 + 5) = some x72) (
          ck (p83.2.ldI .i64 v6 (0 + 6) = some x73) (
          ck (p83.2.ldI .i64 v6 (0 + 7) = some x74) (
          ck (p83.2.ldI .i64 v6 (0 + 8) = some x75) (
          ck (p83.2.ldI .i64 v6 (0 + 9) = some x76) (
          ck (p83.2.ldI .i64 v6 (0 + 10) = some x77) (
          ck (p83.2.ldI .i64 v6 (0 + 11) = some x78) (
          ck (p89.2.ldI .i64 v6 0 = some x67) (
          ck (p89.2.ldI .i64 v6 (0 + 1) = some x68) (
          ck (p89.2.ldI .i64 v6 (0 + 2) = some x69) (
          ck (p89.2.ldI .i64 v6 (0 + 3) = some x70) (
          ck (p89.2.ldI .i64 v6 (0 + 4) = some x71) (
          ck (p89.2.ldI .i64 v6 (0 + 5) = some x72) (
          ck (p89.2.ldI .i64 v6 (0 + 6) = some x73) (
          ck (p89.2.ldI .i64 v6 (0 + 7) = some x74) (
          ck (p89.2.ldI .i64 v6 (0 + 8) = some x75) (
          ck (p89.2.ldI .i64 v6 (0 + 9) = some x76) (
          ck (p89.2.ldI .i64 v6 (0 + 10) = some x77) (
          ck (p89.2.ldI .i64 v6 (0 + 11) = some x78) (
          ck (p95.2.ldI .i64 v6 0 = some x67) (
          ck (p95.2.ldI .i64 v6 (0 + 1) = some x68) (
          ck (p95.2.ldI .i64 v6 (0 + 2) = some x69) (
          ck (p95.2.ldI .i64 v6 (0 + 3) = some x70) (
          ck (p95.2.ldI .i64 v6 (0 + 4) = some x71) (
          ck (p95.2.ldI .i64 v6 (0 + 5) = some x72) (
          ck (p95.2.ldI .i64 v6 (0 + 6) = some x73) (
          ck (p95.2.ldI .i64 v6 (0 + 7) = some x74) (
          ck (p95.2.ldI .i64 v6 (0 + 8) = some x75) (
          ck (p95.2.ldI .i64 v6 (0 + 9) = some x76) (
          ck (p95.2.ldI .i64 v6 (0 + 10) = some x77) (
          ck (p95.2.ldI .i64 v6 (0 + 11) = some x78) (
          (H96.ldI .i64 v1 0).bind fun x133 =>
          (H96.ldI .i64 v1 (0 + 1)).bind fun x134 =>
          (H96.ldI .i64 v1 (0 + 2)).bind fun x135 =>
          (H96.ldI .i64 v1 (0 + 3)).bind fun x136 =>
          (H96.ldI .i64 v1 (0 + 4)).bind fun x137 =>
          (H96.ldI .i64 v1 (0 + 5)).bind fun x138 =>
          (H96.ldI .i64 v1 (0 + 6)).bind fun x139 =>
          (H96.ldI .i64 v1 (0 + 7)).bind fun x140 =>
          (H96.ldI .i64 v1 (0 + 8)).bind fun x141 =>
          (H96.ldI .i64 v1 (0 + 9)).bind fun x142 =>
          (H96.ldI .i64 v1 (0 + 10)).bind fun x143 =>
          (H96.ldI .i64 v1 (0 + 11)).bind fun x144 =>
          some ((x133, x134, x135, x136, x137, x138, x139, x140, x141, x142, x143, x144, true, p95.1), H96))))))))))))))))))))))))))))))))))))))
        else
          ((p89.2.sts v1 0 [.int .i64 x67, .int .i64 x68, .int .i64 x69, .int .i64 x70, .int .i64 x71, .int .i64 x72, .int .i64 x73, .int .i64 x74, .int .i64 x75, .int .i64 x76, .int .i64 x77, .int .i64 x78]).bind fun H145 =>
          ck (p83.2.ldI .i64 v6 0 = some x67) (
          ck (p83.2.ldI .i64 v6 (0 + 1) = some x68) (
          ck (p83.2.ldI .i64 v6 (0 + 2) = some x69) (
          ck (p83.2.ldI .i64 v6 (0 + 3) = some x70) (
          ck (p83.2.ldI .i64 v6 (0 + 4) = some x71) (
          ck (p83.2.ldI .i64 v6 (0 + 5) = some x72) (
          ck (p83.2.ldI .i64 v6 (0 + 6) = some x73) (
          ck (p83.2.ldI .i64 v6 (0 + 7) = some x74) (
          ck (p83.2.ldI .i64 v6 (0 + 8) = some x75) (
          ck (p83.2.ldI .i64 v6 (0 + 9) = some x76) (
          ck (p83.2.ldI .i64 v6 (0 + 10) = some x77) (
          ck (p83.2.ldI .i64 v6 (0 + 11) = some x78) (
          ck (p89.2.ldI .i64 v6 0 = some x67) (
          ck (p89.2.ldI .i64 v6 (0 + 1) = some x68) (
          ck (p89.2.ldI .i64 v6 (0 + 2) = some x69) (
          ck (p89.2.ldI .i64 v6 (0 + 3) = some x70) (
          ck (p89.2.ldI .i64 v6 (0 + 4) = some x71) (
          ck (p89.2.ldI .i64 v6 (0 + 5) = some x72) (
          ck (p89.2.ldI .i64 v6 (0 + 6) = some x73) (
          ck (p89.2.ldI .i64 v6 (0 + 7) = some x74) (
          ck (p89.2.ldI .i64 v6 (0 + 8) = some x75) (
          ck (p89.2.ldI .i64 v6 (0 + 9) = some x76) (
          ck (p89.2.ldI .i64 v6 (0 + 10) = some x77) (
          ck (p89.2.ldI .i64 v6 (0 + 11) = some x78) (
          (H145.ldI .i64 v1 0).bind fun x170 =>
          (H145.ldI .i64 v1 (0 + 1)).bind fun x171 =>
          (H145.ldI .i64 v1 (0 + 2)).bind fun x172 =>
          (H145.ldI .i64 v1 (0 + 3)).bind fun x173 =>
          (H145.ldI .i64 v1 (0 + 4)).bind fun x174 =>
          (H145.ldI .i64 v1 (0 + 5)).bind fun x175 =>
          (H145.ldI .i64 v1 (0 + 6)).bind fun x176 =>
          (H145.ldI .i64 v1 (0 + 7)).bind fun x177 =>
          (H145.ldI .i64 v1 (0 + 8)).bind fun x178 =>
          (H145.ldI .i64 v1 (0 + 9)).bind fun x179 =>
          (H145.ldI .i64 v1 (0 + 10)).bind fun x180 =>
          (H145.ldI .i64 v1 (0 + 11)).bind fun x181 =>
          some ((x170, x171, x172, x173, x174, x175, x176, x177, x178, x179, x180, x181, true, false), H145)))))))))))))))))))))))))))
      else
        ((p83.2.sts v1 0 [.int .i64 x67, .int .i64 x68, .int .i64 x69, .int .i64 x70, .int .i64 x71, .int .i64 x72, .int .i64 x73, .int .i64 x74, .int .i64 x75, .int .i64 x76, .int .i64 x77, .int .i64 x78]).bind fun H182 =>
        ck (p83.2.ldI .i64 v6 0 = some x67) (
        ck (p83.2.ldI .i64 v6 (0 + 1) = some x68) (
        ck (p83.2.ldI .i64 v6 (0 + 2) = some x69) (
        ck (p83.2.ldI .i64 v6 (0 + 3) = some x70) (
        ck (p83.2.ldI .i64 v6 (0 + 4) = some x71) (
        ck (p83.2.ldI .i64 v6 (0 + 5) = some x72) (
        ck (p83.2.ldI .i64 v6 (0 + 6) = some x73) (
        ck (p83.2.ldI .i64 v6 (0 + 7) = some x74) (
        ck (p83.2.ldI .i64 v6 (0 + 8) = some x75) (
        ck (p83.2.ldI .i64 v6 (0 + 9) = some x76) (
        ck (p83.2.ldI .i64 v6 (0 + 10) = some x77) (
        ck (p83.2.ldI .i64 v6 (0 + 11) = some x78) (
        (H182.ldI .i64 v1 0).bind fun x195 =>
        (H182.ldI .i64 v1 (0 + 1)).bind fun x196 =>
        (H182.ldI .i64 v1 (0 + 2)).bind fun x197 =>
        (H182.ldI .i64 v1 (0 + 3)).bind fun x198 =>
        (H182.ldI .i64 v1 (0 + 4)).bind fun x199 =>
        (H182.ldI .i64 v1 (0 + 5)).bind fun x200 =>
        (H182.ldI .i64 v1 (0 + 6)).bind fun x201 =>
        (H182.ldI .i64 v1 (0 + 7)).bind fun x202 =>
        (H182.ldI .i64 v1 (0 + 8)).bind fun x203 =>
        (H182.ldI .i64 v1 (0 + 9)).bind fun x204 =>
        (H182.ldI .i64 v1 (0 + 10)).bind fun x205 =>
        (H182.ldI .i64 v1 (0 + 11)).bind fun x206 =>
        some ((x195, x196, x197, x198, x199, x200, x201, x202, x203, x204, x205, x206, true, false), H182))))))))))))))))
noncomputable def r39 (app : App) (a0 : Sl) (a1_0 : Int) (a1_1 : Int) (H : Hp) : Option ((Int × Int × Int × Int × Int × Int × Int × Int × Int × Int × Int × Int × Bool × Bool) × Hp) :=
  lt ((H.push (.cells [.int .i64 a1_0, .int .i64 a1_1] false)).push (.cells [.int .i64 0, .int .i64 0, .int .i64 0, .int .i64 0, .int .i64 0, .int .i64 0, .int .i64 0, .int .i64 0, .int .i64 0, .int .i64 0, .int .i64 0, .int .i64 0] false)) fun H1 =>
  (r24 a0 H1).bind fun p2 =>
  (p2.2.ldI .i64 H.n 0).bind fun x3 =>
  (p2.2.ldI .i64 H.n (0 + 1)).bind fun x4 =>
  (r46 app p2.1 x3 x4 p2.2).bind fun p5 =>
  ((p5.2.push (.cells [.int .i64 0, .int .i64 0, .int .i64 0, .int .i64 0] false)).sts p5.2.n 0 [.int .i64 p5.1.1, .int .i64 p5.1.2.1, .int .i64 p5.1.2.2.1, .int .i64 p5.1.2.2.2.1]).bind fun H6 =>
  ck (H1.ldI .i64 H.n 0 = some x3) (
  ck (H1.ldI .i64 H.n (0 + 1) = some x4) (
  (r24 a0 H6).bind fun p9 =>
  (p9.2.ldI .i64 H.n 0).bind fun x10 =>
  (p9.2.ldI .i64 H.n (0 + 1)).bind fun x11 =>
  (r63 app p9.1 x10 x11 p9.2).bind fun p12 =>
  ((p12.2.push (.cells [.int .i64 0, .int .i64 0, .int .i64 0, .int .i64 0] false)).sts p12.2.n 0 [.int .i64 p12.1.1, .int .i64 p12.1.2.1, .int .i64 p12.1.2.2.1, .int .i64 p12.1.2.2.2.1]).bind fun H13 =>
  ck (H6.ldI .i64 H.n 0 = some x10) (
  ck (H6.ldI .i64 H.n (0 + 1) = some x11) (
  (r24 a0 H13).bind fun p16 =>
  (p16.2.ldI .i64 H.n 0).bind fun x17 =>
  (p16.2.ldI .i64 H.n (0 + 1)).bind fun x18 =>
  (r40 app p16.1 x17 x18 p16.2).bind fun p19 =>
  ((p19.2.push (.cells [.int .i64 0, .int .i64 0, .int .i64 0, .int .i64 0] false)).sts p19.2.n 0 [.int .i64 p19.1.1, .int .i64 p19.1.2.1, .int .i64 p19.1.2.2.1, .int .i64 p19.1.2.2.2.1]).bind fun H20 =>
  ck (H13.ldI .i64 H.n 0 = some x17) (
  ck (H13.ldI .i64 H.n (0 + 1) = some x18) (
  (H20.ldI .i64 p5.2.n 0).bind fun x23 =>
  (H20.ldI .i64 p5.2.n (0 + 1)).bind fun x24 =>
  (H20.ldI .i64 p5.2.n (0 + 2)).bind fun x25 =>
  (H20.ldI .i64 p5.2.n (0 + 3)).bind fun x26 =>
  (H20.ldI .i64 p12.2.n 0).bind fun x27 =>
  (H20.ldI .i64 p12.2.n (0 + 1)).bind fun x28 =>
  (H20.ldI .i64 p12.2.n (0 + 2)).bind fun x29 =>
  (H20.ldI .i64 p12.2.n (0 + 3)).bind fun x30 =>
  (H20.ldI .i64 p19.2.n 0).bind fun x31 =>
  (H20.ldI .i64 p19.2.n (0 + 1)).bind fun x32 =>
  (H20.ldI .i64 p19.2.n (0 + 2)).bind fun x33 =>
  (H20.ldI .i64 p19.2.n (0 + 3)).bind fun x34 =>
  ((H20.push (.cells [.int .i64 0, .int .i64 0, .int .i64 0, .int .i64 0, .int .i64 0, .int .i64 0, .int .i64 0, .int .i64 0, .int .i64 0, .int .i64 0, .int .i64 0, .int .i64 0] false)).sts H20.n 0 [.int .i64 x23, .int .i64 x24, .int .i64 x25, .int .i64 x26, .int .i64 x27, .int .i64 x28, .int .i64 x29, .int .i64 x30, .int .i64 x31, .int .i64 x32, .int .i64 x33, .int .i64 x34]).bind fun H35 =>
  if p5.1.2.2.2.2 ≠ p12.1.2.2.2.2 then
    (r39_j0 app ((H.push (.cells [.int .i64 a1_0, .int .i64 a1_1] false)).n) p5.2.n p5.1.2.2.2.2 p12.2.n p19.2.n H20.n true H35)
  else
    (r39_j0 app ((H.push (.cells [.int .i64 a1_0, .int .i64 a1_1] false)).n) p5.2.n p5.1.2.2.2.2 p12.2.n p19.2.n H20.n (decide (p5.1.2.2.2.2 ≠ p19.1.2.2.2.2)) H35)))))))
/- 14 congou/congoulaw05.DealsOthers -/
def ret14 : Bool → AV := fun r => .bool r
noncomputable def r14_j0 (app : App) (v1 : Nat) (v2 : Nat) (v3 : Sl) (v4 : Int) (v5 : Bool) (H : Hp) : Option (Bool × Hp) :=
  if v5 = true then
    (if v4 = 0 then
      ((app 19 [] H).bind fun p3 =>
      (p3.1.asB).bind fun x4 =>
      some (x4, p3.2))
    else
      (if v4 = 2 then
        ((H.ldI .i64 v2 (((0 + (0 : Int).toNat * 4) + 0) + 1)).bind fun x6 =>
        if 1000000 < x6 then
          ((app 19 [] H).bind fun p8 =>
          (p8.1.asB).bind fun x9 =>
          some (x9, p8.2))
        else
          ((H.ldI .i64 v2 (((0 + (0 : Int).toNat * 4) + 2) + 1)).bind fun x10 =>
          if 1000000 < x10 then
            ((app 19 [] H).bind fun p12 =>
            (p12.1.asB).bind fun x13 =>
            some (x13, p12.2))
          else
            (some (false, H))))
      else
        (some (false, H))))
  else
    ((H.ldI .i64 v1 0).bind fun x14 =>
    (H.ldI .i64 v1 (0 + 1)).bind fun x15 =>
    (r46 app v3 x14 x15 H).bind fun p16 =>
    ((p16.2.push (.cells [.int .i64 0, .int .i64 0, .int .i64 0, .int .i64 0] false)).sts p16.2.n 0 [.int .i64 p16.1.1, .int .i64 p16.1.2.1, .int .i64 p16.1.2.2.1, .int .i64 p16.1.2.2.2.1]).bind fun H17 =>
    if p16.1.2.2.2.2 = 0 then
      ((H17.ldI .i64 p16.2.n 0).bind fun x19 =>
      (H17.ldI .i64 p16.2.n (0 + 1)).bind fun x20 =>
      (H17.ldI .i64 p16.2.n (0 + 2)).bind fun x21 =>
      (H17.ldI .i64 p16.2.n (0 + 3)).bind fun x22 =>
      (H17.ldI .i64 v2 (0 + (0 : Int).toNat * 4)).bind fun x23 =>
      (H17.ldI .i64 v2 ((0 + (0 : Int).toNat * 4) + 1)).bind fun x24 =>
      (H17.ldI .i64 v2 ((0 + (0 : Int).toNat * 4) + 2)).bind fun x25 =>
      (H17.ldI .i64 v2 ((0 + (0 : Int).toNat * 4) + 3)).bind fun x26 =>
      if (((x19 == x23) && (x20 == x24)) && ((x21 == x25) && (x22 == x26))) = true then
        ((app 19 [] H17).bind fun p28 =>
        (p28.1.asB).bind fun x29 =>
        some (x29, p28.2))
      else
        (some (false, H17)))
    else
      (some (false, H17)))
noncomputable def r14_j1 (app : App) (v1 : Sl) (v2 : Int) (v3 : Nat) (v4 : Nat) (v5 : Bool) (v6 : Bool) (H : Hp) : Option (Bool × Hp) :=
  if v6 = true then
    (if v5 = true then
      ((app 19 [] H).bind fun p3 =>
      (p3.1.asB).bind fun x4 =>
      some (x4, p3.2))
    else
      (some (false, H)))
  else
    (ck ((IntKind.wrap .u64 ((if 1 < (v1.len : Int) then (v1.len : Int) else 1))) ≠ 0) (
    (r24 v1 H).bind fun p6 =>
    (r35 app p6.1 (w64 (Int.tmod (IntKind.wrap .u64 (v2)) (IntKind.wrap .u64 ((if 1 < (v1.len : Int) then (v1.len : Int) else 1))))) p6.2).bind fun p7 =>
    if p7.1.2 ≠ 0 then
      (if p7.1.2 = 4 then
        (if (v1.len : Int) = 1 then
          ((app 19 [] p7.2).bind fun p11 =>
          (p11.1.asB).bind fun x12 =>
          some (x12, p11.2))
        else
          (some (false, p7.2)))
      else
        (some (false, p7.2)))
    else
      ((r24 p7.1.1 p7.2).bind fun p13 =>
      (p13.2.ldI .i64 v4 (0 + (0 : Int).toNat * 4)).bind fun x14 =>
      (p13.2.ldI .i64 v4 ((0 + (0 : Int).toNat * 4) + 1)).bind fun x15 =>
      (p13.2.ldI .i64 v4 ((0 + (0 : Int).toNat * 4) + 2)).bind fun x16 =>
      (p13.2.ldI .i64 v4 ((0 + (0 : Int).toNat * 4) + 3)).bind fun x17 =>
      (r23 app p13.1 x14 x15 x16 x17 p13.2).bind fun p18 =>
      ck (p7.2.ldI .i64 v4 (0 + (0 : Int).toNat * 4) = some x14) (
      ck (p7.2.ldI .i64 v4 ((0 + (0 : Int).toNat * 4) + 1) = some x15) (
      ck (p7.2.ldI .i64 v4 ((0 + (0 : Int).toNat * 4) + 2) = some x16) (
      ck (p7.2.ldI .i64 v4 ((0 + (0 : Int).toNat * 4) + 3) = some x17) (
      if p18.1.2 ≠ 0 then
        (r14_j0 app v3 v4 p7.1.1 p18.1.2 true p18.2)
      else
        (r14_j0 app v3 v4 p7.1.1 p18.1.2 (!p18.1.1) p18.2))))))))
noncomputable def r14 (app : App) (a0 : Sl) (a1_0 : Int) (a1_1 : Int) (a2 : Int) (H : Hp) : Option (Bool × Hp) :=
  lt (H.push (.cells [.int .i64 a1_0, .int .i64 a1_1] false)) fun H1 =>
  (H1.ldI .i64 H.n 0).bind fun x2 =>
  (H1.ldI .i64 H.n (0 + 1)).bind fun x3 =>
  (r39 app a0 x2 x3 H1).bind fun p4 =>
  ((p4.2.push (.cells [.int .i64 0, .int .i64 0, .int .i64 0, .int .i64 0, .int .i64 0, .int .i64 0, .int .i64 0, .int .i64 0, .int .i64 0, .int .i64 0, .int .i64 0, .int .i64 0] false)).sts p4.2.n 0 [.int .i64 p4.1.1, .int .i64 p4.1.2.1, .int .i64 p4.1.2.2.1, .int .i64 p4.1.2.2.2.1, .int .i64 p4.1.2.2.2.2.1, .int .i64 p4.1.2.2.2.2.2.1, .int .i64 p4.1.2.2.2.2.2.2.1, .int .i64 p4.1.2.2.2.2.2.2.2.1, .int .i64 p4.1.2.2.2.2.2.2.2.2.1, .int .i64 p4.1.2.2.2.2.2.2.2.2.2.1, .int .i64 p4.1.2.2.2.2.2.2.2.2.2.2.1, .int .i64 p4.1.2.2.2.2.2.2.2.2.2.2.2.1]).bind fun H5 =>
  if p4.1.2.2.2.2.2.2.2.2.2.2.2.2.2 = true then
    (r14_j1 app a0 a2 H.n p4.2.n true (!p4.1.2.2.2.2.2.2.2.2.2.2.2.2.1) H5)
  else
    (r14_j1 app a0 a2 H.n p4.2.n false true H5)
/- 67 congou/deals.gain -/
def ret67 : Int × Int → AV := fun r => .agg [.int .i64 r.1, .int .i64 r.2]
noncomputable def r67_j0 (v1 : Nat) (v2 : Nat) (v3 : Nat) (v4 : Bool) (H : Hp) : Option ((Int × Int) × Hp) :=
  if v4 = true then
    ((r48 (-1) 1 H0).bind fun p2 =>
    (H.sts v1 0 [.int .i64 p2.1.1, .int .i64 p2.1.2]).bind fun H3 =>
    (H3.ldI .i64 v1 0).bind fun x4 =>
    (H3.ldI .i64 v1 (0 + 1)).bind fun x5 =>
    some ((x4, x5), H3))
  else
    ((H.ldI .i64 v2 (0 + 0)).bind fun x6 =>
    (H.ldI .i64 v3 (0 + 0)).bind fun x7 =>
    (H.ldI .i64 v2 (0 + 1)).bind fun x8 =>
    (H.ldI .i64 v3 (0 + 1)).bind fun x9 =>
    (r48 (w64 (x6 * x7)) (w64 (x8 * x9)) H0).bind fun p10 =>
    (H.sts v1 0 [.int .i64 p10.1.1, .int .i64 p10.1.2]).bind fun H11 =>
    (H11.ldI .i64 v1 0).bind fun x12 =>
    (H11.ldI .i64 v1 (0 + 1)).bind fun x13 =>
    some ((x12, x13), H11))
noncomputable def r67 (a0_0 : Int) (a0_1 : Int) (a0_2 : Int) (a0_3 : Int) (a1_0 : Int) (a1_1 : Int) (H : Hp) : Option ((Int × Int) × Hp) :=
  lt (((H.push (.cells [.int .i64 a0_0, .int .i64 a0_1, .int .i64 a0_2, .int .i64 a0_3] false)).push (.cells [.int .i64 a1_0, .int .i64 a1_1] false)).push (.cells [.int .i64 0, .int .i64 0] false)) fun H1 =>
  (H1.ldI .i64 H.n ((0 + 0) + 0)).bind fun x2 =>
  (H1.ldI .i64 ((H.push (.cells [.int .i64 a0_0, .int .i64 a0_1, .int .i64 a0_2, .int .i64 a0_3] false)).n) (0 + (0 : Int).toNat * 1)).bind fun x3 =>
  (H1.ldI .i64 H.n ((0 + 0) + 1)).bind fun x4 =>
  (H1.ldI .i64 H.n ((0 + 0) + 1)).bind fun x5 =>
  (r48 (w64 (x2 - (w64 (x3 * x4)))) x5 H0).bind fun p6 =>
  (H1.ldI .i64 H.n ((0 + 2) + 0)).bind fun x7 =>
  (H1.ldI .i64 ((H.push (.cells [.int .i64 a0_0, .int .i64 a0_1, .int .i64 a0_2, .int .i64 a0_3] false)).n) (0 + (1 : Int).toNat * 1)).bind fun x8 =>
  (H1.ldI .i64 H.n ((0 + 2) + 1)).bind fun x9 =>
  (H1.ldI .i64 H.n ((0 + 2) + 1)).bind fun x10 =>
  (r48 (w64 (x7 - (w64 (x8 * x9)))) x10 H0).bind fun p11 =>
  (((H1.push (.cells [.int .i64 0, .int .i64 0] false)).push (.cells [.int .i64 0, .int .i64 0] false)).sts H1.n 0 [.int .i64 p6.1.1, .int .i64 p6.1.2]).bind fun H12 =>
  (H12.sts ((H1.push (.cells [.int .i64 0, .int .i64 0] false)).n) 0 [.int .i64 p11.1.1, .int .i64 p11.1.2]).bind fun H13 =>
  (H13.ldI .i64 H1.n (0 + 0)).bind fun x14 =>
  if x14 < 0 then
    (r67_j0 (((H.push (.cells [.int .i64 a0_0, .int .i64 a0_1, .int .i64 a0_2, .int .i64 a0_3] false)).push (.cells [.int .i64 a1_0, .int .i64 a1_1] false)).n) H1.n ((H1.push (.cells [.int .i64 0, .int .i64 0] false)).n) true H13)
  else
    ((H13.ldI .i64 ((H1.push (.cells [.int .i64 0, .int .i64 0] false)).n) (0 + 0)).bind fun x16 =>
    r67_j0 (((H.push (.cells [.int .i64 a0_0, .int .i64 a0_1, .int .i64 a0_2, .int .i64 a0_3] false)).push (.cells [.int .i64 a1_0, .int .i64 a1_1] false)).n) H1.n ((H1.push (.cells [.int .i64 0, .int .i64 0] false)).n) (decide (x16 < 0)) H13)
/- 66 congou/deals.Product$1 -/
def ret66 : Unit → AV := fun _ => .tup []
noncomputable def r66 (a0_0 : Int) (a0_1 : Int) (a0_2 : Int) (a0_3 : Int) (c0 : Nat) (c1 : Nat) (c2 : Nat) (H : Hp) : Option (Unit × Hp) :=
  lt (H.push (.cells [.int .i64 a0_0, .int .i64 a0_1, .int .i64 a0_2, .int .i64 a0_3] false)) fun H1 =>
  (H1.ldI .i64 H.n 0).bind fun x2 =>
  (H1.ldI .i64 H.n (0 + 1)).bind fun x3 =>
  (H1.ldI .i64 H.n (0 + 2)).bind fun x4 =>
  (H1.ldI .i64 H.n (0 + 3)).bind fun x5 =>
  (H1.ldI .i64 c0 0).bind fun x6 =>
  (H1.ldI .i64 c0 (0 + 1)).bind fun x7 =>
  (r67 x2 x3 x4 x5 x6 x7 H0).bind fun p8 =>
  ((H1.push (.cells [.int .i64 0, .int .i64 0] false)).sts H1.n 0 [.int .i64 p8.1.1, .int .i64 p8.1.2]).bind fun H9 =>
  (H9.ldI .i64 H1.n 0).bind fun x10 =>
  (H9.ldI .i64 H1.n (0 + 1)).bind fun x11 =>
  (H9.ldI .i64 c1 0).bind fun x12 =>
  (H9.ldI .i64 c1 (0 + 1)).bind fun x13 =>
  (r68 x10 x11 x12 x13 H0).bind fun p14 =>
  if 0 < p14.1 then
    ((H9.ldI .i64 H.n 0).bind fun x16 =>
    (H9.ldI .i64 H.n (0 + 1)).bind fun x17 =>
    (H9.ldI .i64 H.n (0 + 2)).bind fun x18 =>
    (H9.ldI .i64 H.n (0 + 3)).bind fun x19 =>
    (H9.ldI .i64 H1.n 0).bind fun x20 =>
    (H9.ldI .i64 H1.n (0 + 1)).bind fun x21 =>
    (H9.sts c2 0 [.int .i64 x16, .int .i64 x17, .int .i64 x18, .int .i64 x19]).bind fun H22 =>
    (H22.sts c1 0 [.int .i64 x20, .int .i64 x21]).bind fun H23 =>
    ck (H22.ldI .i64 H1.n 0 = some x20) (
    ck (H22.ldI .i64 H1.n (0 + 1) = some x21) (
    some ((), H23))))
  else
    (some ((), H9))
/- 84 slices.Values[congou/deals.offers,[2]int]$1 -/
def ret84 : Unit → AV := fun _ => .tup []
noncomputable def r84_l0 (app : App) : Nat → AV → Sl → Int → Int → Hp → Option (Unit × Hp)
  | 0, _, _, _, _, _ => none
  | k_ + 1, v1, v2, v3, v4, H => if v4 < v3 then
    (ck ((0 : Int) ≤ v4 ∧ v4 < (v2.len : Int)) (
    (H.ldI .i64 v2.b (v2.o + (v4 : Int).toNat * 2)).bind fun x3 =>
    (H.ldI .i64 v2.b ((v2.o + (v4 : Int).toNat * 2) + 1)).bind fun x4 =>
    ((H.push (.cells [.int .i64 0, .int .i64 0] false)).sts H.n 0 [.int .i64 x3, .int .i64 x4]).bind fun H5 =>
    (H5.ldI .i64 H.n 0).bind fun x6 =>
    (H5.ldI .i64 H.n (0 + 1)).bind fun x7 =>
    (callv app v1 [.agg [.int .i64 x6, .int .i64 x7]] H5).bind fun p8 =>
    (p8.1.asB).bind fun x9 =>
    if x9 = true then
      (r84_l0 app k_ v1 v2 v3 (w64 (v4 + 1)) p8.2)
    else
      (some ((), p8.2))))
  else
    (some ((), H))
noncomputable def r84 (app : App) (a0 : AV) (c0 : Nat) (H : Hp) : Option (Unit × Hp) :=
  (H.ldSl c0 0).bind fun x1 =>
  r84_l0 app FUEL a0 x1 (x1.len : Int) 0 H
end Go.Lt.P5
