/- PRINTED BY A PROGRAM OF OURS: what each function that 'DealsRules' reaches computes on the abstract heap, and that the translated code does just that. Nothing is asked of the input. -/
import Derived.Test.YtficeemoekikdaaDoorG3P8
set_option linter.unusedVariables false
set_option linter.unusedSimpArgs false
set_option maxRecDepth 100000
set_option maxHeartbeats 4000000
namespace Go.Lt.P5
open Go Go.Lt Go.Proofs
/- 14 congou/congouref05.Best -/
theorem ok14 : FnOk Tryd.prog 14 := ⟨⟨Tryd.f14, Tryd.func14, by kernel_rfl, rfl⟩⟩
theorem sim14 {a0 : Sl} {a1_0 : Int} {a1_1 : Int} {H : Hp} {p : (Int × Int × Int × Int) × Hp} (h : r14 a0 a1_0 a1_1 H = some p) : CallSim Tryd.prog 14 [.sl a0, .agg [.int .i64 a1_0, .int .i64 a1_1]] H (.agg [.int .i64 p.1.1, .int .i64 p.1.2.1, .int .i64 p.1.2.2.1, .int .i64 p.1.2.2.2]) p.2 := by
  refine callSim (fn := Tryd.f14) (ret := ret14) Tryd.func14 rfl Tryd.ntmps14 rfl ?_ h
  unfold r14
  refine f_seq ?_
  refine f_region ?_
  refine f_op rfl rfl (s_box (v := .agg [.int .i64 a1_0, .int .i64 a1_1]) rfl rfl) ?_
  refine f_op rfl rfl (s_alloc (zs := [.int .i64 0, .int .i64 0, .int .i64 0, .int .i64 0]) ty36 rfl rfl) ?_
  refine o_hp ?_; intro H1 hH1
  refine f_nil ?_
  refine f_seq ?_
  refine f_region ?_
  refine f_op rfl rfl (s_mv (v := .sl a0) rfl) ?_
  refine o_bind ?_; intro x2 hx2
  refine o_bind ?_; intro x3 hx3
  refine f_op rfl rfl (s_loads Tryd.underlying23 rfl ty23 rfl (lds_cons (ldI_eq hx2) (lds_cons (ldI_eq hx3) (lds_nil)))) ?_
  refine o_bind ?_; intro p4 hp4
  refine f_op rfl rfl (s_callO rfl ok28 (sim28 hp4) rfl rfl) ?_
  refine o_bind ?_; intro p5 hp5
  refine f_op rfl rfl (s_callO rfl ok30 (sim30 hp5) rfl rfl) ?_
  refine o_bind ?_; intro p6 hp6
  refine f_op rfl rfl (s_callO rfl ok30 (sim30 hp6) rfl rfl) ?_
  refine o_bind ?_; intro p7 hp7
  refine f_op rfl rfl (s_callF rfl ok29 (sim29 hp7)) ?_
  refine f_op rfl rfl (s_mv (v := .tup [.agg [.int .i64 p7.1.1, .int .i64 p7.1.2.1], .bool p7.1.2.2]) rfl) ?_
  refine f_op rfl rfl (s_extract (r := .agg [.int .i64 p7.1.1, .int .i64 p7.1.2.1]) rfl rfl) ?_
  refine f_op rfl rfl (s_extract (r := .bool p7.1.2.2) rfl rfl) ?_
  refine f_op rfl rfl (s_alloc (zs := [.int .i64 0, .int .i64 0]) ty25 rfl rfl) ?_
  refine o_bind ?_; intro H8 hH8
  refine f_op rfl rfl (s_stores ty25 rfl rfl rfl rfl hH8 (Nat.le_of_eq (sts_mono hH8).symm)) ?_
  refine f_op rfl rfl (s_as (v := .bool p7.1.2.2) rfl) ?_
  refine f_nil ?_
  refine f_seq ?_
  refine f_region ?_
  refine f_op rfl rfl (s_mv (v := .sl a0) rfl) ?_
  refine o_bind ?_; intro x9 hx9
  refine o_bind ?_; intro x10 hx10
  refine f_op rfl rfl (s_loads Tryd.underlying23 rfl ty23 rfl (lds_cons (ldI_eq hx9) (lds_cons (ldI_eq hx10) (lds_nil)))) ?_
  refine o_bind ?_; intro p11 hp11
  refine f_op rfl rfl (s_callO rfl ok28 (sim28 hp11) rfl rfl) ?_
  refine o_bind ?_; intro p12 hp12
  refine f_op rfl rfl (s_callO rfl ok30 (sim30 hp12) rfl rfl) ?_
  refine o_bind ?_; intro p13 hp13
  refine f_op rfl rfl (s_callO rfl ok30 (sim30 hp13) rfl rfl) ?_
  refine o_bind ?_; intro p14 hp14
  refine f_op rfl rfl (s_callF rfl ok29 (sim29 hp14)) ?_
  refine f_op rfl rfl (s_mv (v := .tup [.agg [.int .i64 p14.1.1, .int .i64 p14.1.2.1], .bool p14.1.2.2]) rfl) ?_
  refine f_op rfl rfl (s_extract (r := .agg [.int .i64 p14.1.1, .int .i64 p14.1.2.1]) rfl rfl) ?_
  refine f_op rfl rfl (s_extract (r := .bool p14.1.2.2) rfl rfl) ?_
  refine f_op rfl rfl (s_alloc (zs := [.int .i64 0, .int .i64 0]) ty25 rfl rfl) ?_
  refine o_bind ?_; intro H15 hH15
  refine f_op rfl rfl (s_stores ty25 rfl rfl rfl rfl hH15 (Nat.le_of_eq (sts_mono hH15).symm)) ?_
  refine f_op rfl rfl (s_as (v := .bool p14.1.2.2) rfl) ?_
  refine f_nil ?_
  refine f_seq ?_
  refine f_bind ?_; intro x16 hx16
  refine f_bind ?_; intro x17 hx17
  refine f_bind ?_; intro p18 hp18
  refine f_bind ?_; intro x19 hx19
  refine f_bind ?_; intro x20 hx20
  refine f_bind ?_; intro x21 hx21
  refine f_bind ?_; intro x22 hx22
  refine f_bind ?_; intro p23 hp23
  refine f_bind ?_; intro H24 hH24
  refine f_drawF (Φ := fun _ => True) (lim := 1000000) [0, 1, 0, 1, 1, 2, 0, 0, 0, 2, 2, 0] [false, false, false, false, false, false, false, false, false, true, false, false] 9 10 (Trc.pure rfl rfl rfl (.inl fun _ => s_mv (v := .sl a0) rfl) (Trc.read rfl rfl rfl (s_loads Tryd.underlying23 rfl ty23 rfl (lds_cons (ldI_eq hx16) (lds_cons (ldI_eq hx17) (lds_nil)))) (Trc.pure rfl rfl rfl (.inl fun _ => s_callO rfl ok28 (sim28 hp18) rfl rfl) (Trc.read rfl rfl rfl (s_loads Tryd.underlying25 rfl ty25 rfl (lds_cons (ldI_eq hx19) (lds_cons (ldI_eq hx20) (lds_nil)))) (Trc.read rfl rfl rfl (s_loads Tryd.underlying25 rfl ty25 rfl (lds_cons (ldI_eq hx21) (lds_cons (ldI_eq hx22) (lds_nil)))) (Trc.eff rfl rfl rfl (fun _ => trivial) (s_callF rfl ok29 (sim29 hp23)) (Trc.pure rfl rfl rfl (.inl fun _ => s_mv (v := .tup [.agg [.int .i64 p23.1.1, .int .i64 p23.1.2.1], .bool p23.1.2.2]) rfl) (Trc.pure rfl rfl rfl (.inl fun _ => s_extract (r := .agg [.int .i64 p23.1.1, .int .i64 p23.1.2.1]) rfl rfl) (Trc.pure rfl rfl rfl (.inl fun _ => s_extract (r := .bool p23.1.2.2) rfl rfl) (Trc.fl .p rfl rfl rfl (fun _ => trivial) rfl (by rfl) (fun _ => s_alloc (zs := [.int .i64 0, .int .i64 0]) ty25 rfl rfl) (Trc.eff rfl rfl rfl (fun _ => trivial) (s_stores ty25 rfl rfl rfl rfl hH24 (Nat.le_of_eq (sts_mono hH24).symm)) (Trc.pure rfl rfl rfl (.inl fun _ => s_as (v := .bool p23.1.2.2) rfl) (Trc.nil (fun _ => trivial)))))))))))))) rfl rfl (by decide +kernel) mixed ?_
  refine f_seq ?_
  refine f_bind ?_; intro x25 hx25
  refine f_bind ?_; intro p26 hp26
  refine f_bind ?_; intro x27 hx27
  refine f_bind ?_; intro x28 hx28
  refine f_bind ?_; intro x29 hx29
  refine f_bind ?_; intro x30 hx30
  refine f_bind ?_; intro p31 hp31
  refine f_bind ?_; intro p32 hp32
  refine f_bind ?_; intro x33 hx33
  refine f_bind ?_; intro p34 hp34
  refine f_bind ?_; intro x35 hx35
  refine f_bind ?_; intro x36 hx36
  refine f_bind ?_; intro x37 hx37
  refine f_bind ?_; intro x38 hx38
  refine f_bind ?_; intro p39 hp39
  refine f_bind ?_; intro p40 hp40
  refine f_bind ?_; intro H41 hH41
  refine f_draw (Φ := fun _ => True) (lim := 1000000) [0, 1, 0, 1, 1, 0, 0, 0, 1, 0, 1, 1, 0, 0, 0, 2] (Trc.pure rfl rfl rfl (.inl fun _ => s_idxA Tryd.underlying23 ty3 rfl rfl (by decide)) (Trc.read rfl rfl rfl (s_load Tryd.underlying3 rfl rfl (ldI_eq hx25)) (Trc.pure rfl rfl rfl (.inl fun _ => s_callO rfl ok30 (sim30 hp26) rfl rfl) (Trc.read rfl rfl rfl (s_loads Tryd.underlying25 rfl ty25 rfl (lds_cons (ldI_eq hx27) (lds_cons (ldI_eq hx28) (lds_nil)))) (Trc.read rfl rfl rfl (s_loads Tryd.underlying25 rfl ty25 rfl (lds_cons (ldI_eq hx29) (lds_cons (ldI_eq hx30) (lds_nil)))) (Trc.pure rfl rfl rfl (.inl fun _ => s_callO rfl ok36 (sim36 hp31) rfl rfl) (Trc.pure rfl rfl rfl (.inl fun _ => s_callO rfl ok32 (sim32 hp32) rfl rfl) (Trc.pure rfl rfl rfl (.inl fun _ => s_idxA Tryd.underlying23 ty3 rfl rfl (by decide)) (Trc.read rfl rfl rfl (s_load Tryd.underlying3 rfl rfl (ldI_eq hx33)) (Trc.pure rfl rfl rfl (.inl fun _ => s_callO rfl ok30 (sim30 hp34) rfl rfl) (Trc.read rfl rfl rfl (s_loads Tryd.underlying25 rfl ty25 rfl (lds_cons (ldI_eq hx35) (lds_cons (ldI_eq hx36) (lds_nil)))) (Trc.read rfl rfl rfl (s_loads Tryd.underlying25 rfl ty25 rfl (lds_cons (ldI_eq hx37) (lds_cons (ldI_eq hx38) (lds_nil)))) (Trc.pure rfl rfl rfl (.inl fun _ => s_callO rfl ok36 (sim36 hp39) rfl rfl) (Trc.pure rfl rfl rfl (.inl fun _ => s_callO rfl ok32 (sim32 hp40) rfl rfl) (Trc.pure rfl rfl rfl (.inl fun _ => s_build (cs := [.int .i64 p32.1.1, .int .i64 p32.1.2, .int .i64 p40.1.1, .int .i64 p40.1.2]) Tryd.underlying36 ty36 rfl pl36 rfl) (Trc.eff rfl rfl rfl (fun _ => trivial) (s_stores ty36 rfl rfl rfl rfl hH41 (Nat.le_of_eq (sts_mono hH41).symm)) (Trc.nil (fun _ => trivial)))))))))))))))))) rfl (by decide +kernel) mixed ?_
  refine f_bind ?_; intro x42 hx42
  refine f_bind ?_; intro x43 hx43
  refine f_bind ?_; intro x44 hx44
  refine f_bind ?_; intro x45 hx45
  exact f_ret (.cells Tryd.underlying36 rfl sz36 rfl (lds_cons (ldI_eq hx42) (lds_cons (ldI_eq hx43) (lds_cons (ldI_eq hx44) (lds_cons (ldI_eq hx45) (lds_nil))))) (.nil)) rfl

/- 15 congou/congouref05.Halves -/
theorem ok15 : FnOk Tryd.prog 15 := ⟨⟨Tryd.f15, Tryd.func15, by kernel_rfl, rfl⟩⟩
theorem sim15 {a0 : Sl} {a1_0 : Int} {a1_1 : Int} {H : Hp} {p : (Int × Int × Int × Int) × Hp} (h : r15 a0 a1_0 a1_1 H = some p) : CallSim Tryd.prog 15 [.sl a0, .agg [.int .i64 a1_0, .int .i64 a1_1]] H (.agg [.int .i64 p.1.1, .int .i64 p.1.2.1, .int .i64 p.1.2.2.1, .int .i64 p.1.2.2.2]) p.2 := by
  refine callSim (fn := Tryd.f15) (ret := ret15) Tryd.func15 rfl Tryd.ntmps15 rfl ?_ h
  unfold r15
  refine f_seq ?_
  refine f_region ?_
  refine f_op rfl rfl (s_box (v := .agg [.int .i64 a1_0, .int .i64 a1_1]) rfl rfl) ?_
  refine f_op rfl rfl (s_alloc (zs := [.int .i64 0, .int .i64 0, .int .i64 0, .int .i64 0]) ty36 rfl rfl) ?_
  refine o_hp ?_; intro H1 hH1
  refine f_nil ?_
  refine f_seq ?_
  refine f_region ?_
  refine f_op rfl rfl (s_mv (v := .sl a0) rfl) ?_
  refine o_bind ?_; intro x2 hx2
  refine o_bind ?_; intro x3 hx3
  refine f_op rfl rfl (s_loads Tryd.underlying23 rfl ty23 rfl (lds_cons (ldI_eq hx2) (lds_cons (ldI_eq hx3) (lds_nil)))) ?_
  refine o_bind ?_; intro p4 hp4
  refine f_op rfl rfl (s_callO rfl ok28 (sim28 hp4) rfl rfl) ?_
  refine o_bind ?_; intro p5 hp5
  refine f_op rfl rfl (s_callO rfl ok30 (sim30 hp5) rfl rfl) ?_
  refine o_bind ?_; intro p6 hp6
  refine f_op rfl rfl (s_callO rfl ok30 (sim30 hp6) rfl rfl) ?_
  refine o_bind ?_; intro p7 hp7
  refine f_op rfl rfl (s_callF rfl ok29 (sim29 hp7)) ?_
  refine f_op rfl rfl (s_mv (v := .tup [.agg [.int .i64 p7.1.1, .int .i64 p7.1.2.1], .bool p7.1.2.2]) rfl) ?_
  refine f_op rfl rfl (s_extract (r := .agg [.int .i64 p7.1.1, .int .i64 p7.1.2.1]) rfl rfl) ?_
  refine f_op rfl rfl (s_extract (r := .bool p7.1.2.2) rfl rfl) ?_
  refine f_op rfl rfl (s_alloc (zs := [.int .i64 0, .int .i64 0]) ty25 rfl rfl) ?_
  refine o_bind ?_; intro H8 hH8
  refine f_op rfl rfl (s_stores ty25 rfl rfl rfl rfl hH8 (Nat.le_of_eq (sts_mono hH8).symm)) ?_
  refine f_op rfl rfl (s_as (v := .bool p7.1.2.2) rfl) ?_
  refine f_nil ?_
  refine f_seq ?_
  refine f_bind ?_; intro x9 hx9
  refine f_bind ?_; intro p10 hp10
  refine f_bind ?_; intro x11 hx11
  refine f_bind ?_; intro x12 hx12
  refine f_bind ?_; intro p13 hp13
  refine f_bind ?_; intro x14 hx14
  refine f_bind ?_; intro p15 hp15
  refine f_bind ?_; intro x16 hx16
  refine f_bind ?_; intro x17 hx17
  refine f_bind ?_; intro p18 hp18
  refine f_bind ?_; intro H19 hH19
  refine f_draw (Φ := fun _ => True) (lim := 1000000) [0, 1, 0, 1, 0, 0, 1, 0, 1, 0, 0, 2] (Trc.pure rfl rfl rfl (.inl fun _ => s_idxA Tryd.underlying23 ty3 rfl rfl (by decide)) (Trc.read rfl rfl rfl (s_load Tryd.underlying3 rfl rfl (ldI_eq hx9)) (Trc.pure rfl rfl rfl (.inl fun _ => s_callO rfl ok30 (sim30 hp10) rfl rfl) (Trc.read rfl rfl rfl (s_loads Tryd.underlying25 rfl ty25 rfl (lds_cons (ldI_eq hx11) (lds_cons (ldI_eq hx12) (lds_nil)))) (Trc.pure rfl rfl rfl (.inl fun _ => s_callO rfl ok32 (sim32 hp13) rfl rfl) (Trc.pure rfl rfl rfl (.inl fun _ => s_idxA Tryd.underlying23 ty3 rfl rfl (by decide)) (Trc.read rfl rfl rfl (s_load Tryd.underlying3 rfl rfl (ldI_eq hx14)) (Trc.pure rfl rfl rfl (.inl fun _ => s_callO rfl ok30 (sim30 hp15) rfl rfl) (Trc.read rfl rfl rfl (s_loads Tryd.underlying25 rfl ty25 rfl (lds_cons (ldI_eq hx16) (lds_cons (ldI_eq hx17) (lds_nil)))) (Trc.pure rfl rfl rfl (.inl fun _ => s_callO rfl ok32 (sim32 hp18) rfl rfl) (Trc.pure rfl rfl rfl (.inl fun _ => s_build (cs := [.int .i64 p13.1.1, .int .i64 p13.1.2, .int .i64 p18.1.1, .int .i64 p18.1.2]) Tryd.underlying36 ty36 rfl pl36 rfl) (Trc.eff rfl rfl rfl (fun _ => trivial) (s_stores ty36 rfl rfl rfl rfl hH19 (Nat.le_of_eq (sts_mono hH19).symm)) (Trc.nil (fun _ => trivial)))))))))))))) rfl (by decide +kernel) mixed ?_
  refine f_bind ?_; intro x20 hx20
  refine f_bind ?_; intro x21 hx21
  refine f_bind ?_; intro x22 hx22
  refine f_bind ?_; intro x23 hx23
  exact f_ret (.cells Tryd.underlying36 rfl sz36 rfl (lds_cons (ldI_eq hx20) (lds_cons (ldI_eq hx21) (lds_cons (ldI_eq hx22) (lds_cons (ldI_eq hx23) (lds_nil))))) (.nil)) rfl

end Go.Lt.P5
