/- PRINTED BY A PROGRAM OF OURS: what each function that 'DealsRules' reaches computes on the abstract heap, and that the translated code does just that. Nothing is asked of the input. -/
import Derived.Test.YtficeemoekikdaaDoorG3P6
set_option linter.unusedVariables false
set_option linter.unusedSimpArgs false
set_option maxRecDepth 100000
set_option maxHeartbeats 4000000
namespace Go.Lt.P5
open Go Go.Lt Go.Proofs
/- 29 congou/congouref05.along -/
theorem ok29 : FnOk Tryd.prog 29 := ⟨⟨Tryd.f29, Tryd.func29, by kernel_rfl, rfl⟩⟩
theorem s29_j1 (kt0 : Nat → Nat → Nat → Nat → Nat → Bool → Sl → Int → Int → Hp → Option ((Int × Int × Bool) × Hp)) (hkt0 : ∀ (v1 : Nat) (v2 : Nat) (v3 : Nat) (v4 : Nat) (v5 : Nat) (v6 : Bool) (v7 : Sl) (v8 : Int) (v9 : Int) (H : Hp), Fin Tryd.prog Tryd.f29 ret29 73 (todoAt (bodyOf Tryd.f29) [1, 1, 1, 0, 1, 0, 0] []) [(5, .ptr v1 0), (6, .ptr v2 0), (7, .ptr v3 0), (8, .ptr v4 0), (10, .ptr v5 0), (11, .bool v6), (18, .sl v7), (19, .int .i64 v8), (20, .int .i64 v9)] H (kt0 v1 v2 v3 v4 v5 v6 v7 v8 v9 H)) (v1 : Nat) (v2 : Nat) (v3 : Nat) (v4 : Nat) (v5 : Nat) (v6 : Bool) (v7 : Nat) (v8 : Sl) (v9 : Int) (v10 : Int) (v11 : Bool) (H : Hp) : Fin Tryd.prog Tryd.f29 ret29 73 (todoAt (bodyOf Tryd.f29) [1, 1, 1, 0, 1, 0, 0, 1, 1, 0, 0, 1, 1, 1, 1, 1, 1] []) [(5, .ptr v1 0), (6, .ptr v2 0), (7, .ptr v3 0), (8, .ptr v4 0), (10, .ptr v5 0), (11, .bool v6), (16, .ptr v7 0), (18, .sl v8), (19, .int .i64 v9), (20, .int .i64 v10), (68, .bool v11)] H (r29_j1 kt0 v1 v2 v3 v4 v5 v6 v7 v8 v9 v10 v11 H) := by
  unfold r29_j1
  refine f_if (fun h1 => ?_) (fun h1 => ?_)
  · skip
    refine f_know 68 rfl (bool_T h1) ?_
    refine f_condT rfl ?_
    refine f_region ?_
    refine o_bind ?_; intro x2 hx2
    refine o_bind ?_; intro x3 hx3
    refine f_op rfl rfl (s_loads Tryd.underlying25 rfl ty25 rfl (lds_cons (ldI_eq hx2) (lds_cons (ldI_eq hx3) (lds_nil)))) ?_
    refine o_bind ?_; intro H4 hH4
    refine f_op rfl rfl (s_stores ty25 rfl rfl rfl rfl hH4 (Nat.le_of_eq (sts_mono hH4).symm)) ?_
    refine f_op rfl rfl (s_as (v := .bool true) rfl) ?_
    refine f_nil ?_
    refine f_inBlock ?_
    refine f_region ?_
    refine f_op rfl rfl (s_add rfl rfl) ?_
    refine f_op rfl rfl (s_mv (v := .int .i64 (w64 (v10 + 1))) rfl) ?_
    refine f_nil ?_
    refine f_inLoop ?_
    refine f_keep [5, 6, 7, 8, 10, 11, 18, 19, 20] ?_
    exact hkt0 v1 v2 v3 v4 v5 true v8 v9 (w64 (v10 + 1)) H4
  · skip
    refine f_know 68 rfl (bool_F h1) ?_
    refine f_condF rfl ?_
    refine f_skip ?_
    refine f_inBlock ?_
    refine f_region ?_
    refine f_op rfl rfl (s_add rfl rfl) ?_
    refine f_op rfl rfl (s_mv (v := .int .i64 (w64 (v10 + 1))) rfl) ?_
    refine f_nil ?_
    refine f_inLoop ?_
    refine f_keep [5, 6, 7, 8, 10, 11, 18, 19, 20] ?_
    exact hkt0 v1 v2 v3 v4 v5 v6 v8 v9 (w64 (v10 + 1)) H

theorem s29_l0 : ∀ (k_ : Nat) (v1 : Nat) (v2 : Nat) (v3 : Nat) (v4 : Nat) (v5 : Nat) (v6 : Bool) (v7 : Sl) (v8 : Int) (v9 : Int) (H : Hp), Fin Tryd.prog Tryd.f29 ret29 73 (todoAt (bodyOf Tryd.f29) [1, 1, 1, 0, 1, 0, 0] []) [(5, .ptr v1 0), (6, .ptr v2 0), (7, .ptr v3 0), (8, .ptr v4 0), (10, .ptr v5 0), (11, .bool v6), (18, .sl v7), (19, .int .i64 v8), (20, .int .i64 v9)] H (r29_l0 k_ v1 v2 v3 v4 v5 v6 v7 v8 v9 H) := by
  intro k_
  induction k_ with
  | zero => intro _ _ _ _ _ _ _ _ _ _; exact f_none
  | succ k_ ih =>
    intro v1 v2 v3 v4 v5 v6 v7 v8 v9 H
    rw [r29_l0]
    refine f_seq ?_
    refine f_region ?_
    refine f_op rfl rfl (s_lss rfl rfl) ?_
    refine f_nil ?_
    refine f_seq ?_
    refine f_if (fun h1 => ?_) (fun h1 => ?_)
    · skip
      refine f_know 21 rfl (dec_true h1) ?_
      refine f_condT rfl ?_
      refine f_skip ?_
      refine f_seq ?_
      refine f_block ?_
      refine f_seq ?_
      refine f_region ?_
      refine o_ck fun g2 => ?_
      refine f_op rfl rfl (s_idx Tryd.underlying75 ty77 rfl rfl g2) ?_
      refine o_bind ?_; intro x3 hx3
      refine o_bind ?_; intro x4 hx4
      refine o_bind ?_; intro x5 hx5
      refine f_op rfl rfl (s_loads Tryd.underlying77 rfl ty77 rfl (lds_cons (ldI_eq hx3) (lds_cons (ldI_eq hx4) (lds_cons (ldI_eq hx5) (lds_nil))))) ?_
      refine f_op rfl rfl (s_alloc (zs := [.int .i64 0, .int .i64 0, .int .i64 0]) ty77 rfl rfl) ?_
      refine o_bind ?_; intro H6 hH6
      refine f_op rfl rfl (s_stores ty77 rfl rfl rfl rfl hH6 (Nat.le_of_eq (sts_mono hH6).symm)) ?_
      refine f_nil ?_
      refine f_seq ?_
      refine f_bind ?_; intro x7 hx7
      refine f_bind ?_; intro p8 hp8
      refine f_bind ?_; intro x9 hx9
      refine f_bind ?_; intro x10 hx10
      refine f_bind ?_; intro p11 hp11
      refine f_bind ?_; intro x12 hx12
      refine f_bind ?_; intro p13 hp13
      refine f_bind ?_; intro x14 hx14
      refine f_bind ?_; intro x15 hx15
      refine f_bind ?_; intro p16 hp16
      refine f_bind ?_; intro p17 hp17
      refine f_bind ?_; intro H18 hH18
      refine f_drawF (Φ := fun _ => True) (lim := 1000000) [0, 1, 0, 1, 0, 0, 1, 0, 1, 0, 0, 2, 2] [false, false, false, false, false, false, false, false, false, false, false, true, false] 11 12 (Trc.pure rfl rfl rfl (.inl fun _ => s_idxA Tryd.underlying77 ty3 rfl rfl (by decide)) (Trc.read rfl rfl rfl (s_load Tryd.underlying3 rfl rfl (ldI_eq hx7)) (Trc.pure rfl rfl rfl (.inl fun _ => s_callO rfl ok30 (sim30 hp8) rfl rfl) (Trc.read rfl rfl rfl (s_loads Tryd.underlying25 rfl ty25 rfl (lds_cons (ldI_eq hx9) (lds_cons (ldI_eq hx10) (lds_nil)))) (Trc.pure rfl rfl rfl (.inl fun _ => s_callO rfl ok36 (sim36 hp11) rfl rfl) (Trc.pure rfl rfl rfl (.inl fun _ => s_idxA Tryd.underlying77 ty3 rfl rfl (by decide)) (Trc.read rfl rfl rfl (s_load Tryd.underlying3 rfl rfl (ldI_eq hx12)) (Trc.pure rfl rfl rfl (.inl fun _ => s_callO rfl ok30 (sim30 hp13) rfl rfl) (Trc.read rfl rfl rfl (s_loads Tryd.underlying25 rfl ty25 rfl (lds_cons (ldI_eq hx14) (lds_cons (ldI_eq hx15) (lds_nil)))) (Trc.pure rfl rfl rfl (.inl fun _ => s_callO rfl ok36 (sim36 hp16) rfl rfl) (Trc.pure rfl rfl rfl (.inl fun _ => s_callO rfl ok32 (sim32 hp17) rfl rfl) (Trc.fl .p rfl rfl rfl (fun _ => trivial) rfl (by rfl) (fun _ => s_alloc (zs := [.int .i64 0, .int .i64 0]) ty25 rfl rfl) (Trc.eff rfl rfl rfl (fun _ => trivial) (s_stores ty25 rfl rfl rfl rfl hH18 (Nat.le_of_eq (sts_mono hH18).symm)) (Trc.nil (fun _ => trivial))))))))))))))) rfl rfl (by decide +kernel) mixed ?_
      refine f_seq ?_
      refine f_seq ?_
      refine f_region ?_
      refine f_op rfl rfl (s_fieldAddr Tryd.underlying25 rfl ty3 rfl) ?_
      refine o_bind ?_; intro x19 hx19
      refine f_op rfl rfl (s_load Tryd.underlying3 rfl rfl (ldI_eq hx19)) ?_
      refine f_op rfl rfl (s_leq rfl rfl) ?_
      refine f_nil ?_
      refine f_if (fun h20 => ?_) (fun h20 => ?_)
      · skip
        refine f_know 37 rfl (dec_true h20) ?_
        refine f_condT rfl ?_
        refine f_exit rfl ?_
        refine f_region ?_
        refine f_op rfl rfl (s_add rfl rfl) ?_
        refine f_op rfl rfl (s_mv (v := .int .i64 (w64 (v9 + 1))) rfl) ?_
        refine f_nil ?_
        refine f_inLoop ?_
        refine f_keep [5, 6, 7, 8, 10, 11, 18, 19, 20] ?_
        exact ih v1 v2 v3 v4 v5 v6 v7 v8 (w64 (v9 + 1)) H18
      · skip
        refine f_know 37 rfl (dec_false h20) ?_
        refine f_condF rfl ?_
        refine f_skip ?_
        refine f_seq ?_
        refine f_bind ?_; intro x21 hx21
        refine f_bind ?_; intro p22 hp22
        refine f_bind ?_; intro x23 hx23
        refine f_bind ?_; intro p24 hp24
        refine f_bind ?_; intro x25 hx25
        refine f_bind ?_; intro x26 hx26
        refine f_bind ?_; intro p27 hp27
        refine f_bind ?_; intro x28 hx28
        refine f_bind ?_; intro p29 hp29
        refine f_bind ?_; intro x30 hx30
        refine f_bind ?_; intro x31 hx31
        refine f_bind ?_; intro p32 hp32
        refine f_bind ?_; intro p33 hp33
        refine f_bind ?_; intro p34 hp34
        refine f_bind ?_; intro H35 hH35
        refine f_drawF (Φ := fun _ => True) (lim := 1000000) [0, 1, 0, 0, 1, 0, 0, 1, 0, 0, 1, 0, 0, 1, 0, 0, 0, 2, 2] [false, false, false, false, false, false, false, false, false, false, false, false, false, false, false, false, false, true, false] 17 18 (Trc.pure rfl rfl rfl (.inl fun _ => s_idxA Tryd.underlying77 ty3 rfl rfl (by decide)) (Trc.read rfl rfl rfl (s_load Tryd.underlying3 rfl rfl (ldI_eq hx21)) (Trc.pure rfl rfl rfl (.inl fun _ => s_callO rfl ok30 (sim30 hp22) rfl rfl) (Trc.pure rfl rfl rfl (.inl fun _ => s_idxA Tryd.underlying77 ty3 rfl rfl (by decide)) (Trc.read rfl rfl rfl (s_load Tryd.underlying3 rfl rfl (ldI_eq hx23)) (Trc.pure rfl rfl rfl (.inl fun _ => s_callO rfl ok30 (sim30 hp24) rfl rfl) (Trc.pure rfl rfl rfl (.inl fun _ => s_fieldAddr Tryd.underlying36 rfl ty25 rfl) (Trc.read rfl rfl rfl (s_loads Tryd.underlying25 rfl ty25 rfl (lds_cons (ldI_eq hx25) (lds_cons (ldI_eq hx26) (lds_nil)))) (Trc.pure rfl rfl rfl (.inl fun _ => s_callO rfl ok36 (sim36 hp27) rfl rfl) (Trc.pure rfl rfl rfl (.inl fun _ => s_idxA Tryd.underlying77 ty3 rfl rfl (by decide)) (Trc.read rfl rfl rfl (s_load Tryd.underlying3 rfl rfl (ldI_eq hx28)) (Trc.pure rfl rfl rfl (.inl fun _ => s_callO rfl ok30 (sim30 hp29) rfl rfl) (Trc.pure rfl rfl rfl (.inl fun _ => s_fieldAddr Tryd.underlying36 rfl ty25 rfl) (Trc.read rfl rfl rfl (s_loads Tryd.underlying25 rfl ty25 rfl (lds_cons (ldI_eq hx30) (lds_cons (ldI_eq hx31) (lds_nil)))) (Trc.pure rfl rfl rfl (.inl fun _ => s_callO rfl ok36 (sim36 hp32) rfl rfl) (Trc.pure rfl rfl rfl (.inl fun _ => s_callO rfl ok32 (sim32 hp33) rfl rfl) (Trc.pure rfl rfl rfl (.inl fun _ => s_callO rfl ok35 (sim35 hp34) rfl rfl) (Trc.fl .p rfl rfl rfl (fun _ => trivial) rfl (by rfl) (fun _ => s_alloc (zs := [.int .i64 0, .int .i64 0]) ty25 rfl rfl) (Trc.eff rfl rfl rfl (fun _ => trivial) (s_stores ty25 rfl rfl rfl rfl hH35 (Nat.le_of_eq (sts_mono hH35).symm)) (Trc.nil (fun _ => trivial))))))))))))))))))))) rfl rfl (by decide +kernel) mixed ?_
        refine f_seq ?_
        refine f_bind ?_; intro x36 hx36
        refine f_bind ?_; intro x37 hx37
        refine f_bind ?_; intro x38 hx38
        refine f_bind ?_; intro x39 hx39
        refine f_bind ?_; intro p40 hp40
        refine f_bind ?_; intro p41 hp41
        refine f_bind ?_; intro H42 hH42
        refine f_drawF (Φ := fun _ => True) (lim := 1000000) [1, 0, 1, 0, 1, 0, 0, 2, 2] [false, false, false, false, false, false, false, true, false] 7 8 (Trc.read rfl rfl rfl (s_loads Tryd.underlying25 rfl ty25 rfl (lds_cons (ldI_eq hx36) (lds_cons (ldI_eq hx37) (lds_nil)))) (Trc.pure rfl rfl rfl (.inl fun _ => s_fieldAddr Tryd.underlying25 rfl ty3 rfl) (Trc.read rfl rfl rfl (s_load Tryd.underlying3 rfl rfl (ldI_eq hx38)) (Trc.pure rfl rfl rfl (.inl fun _ => s_fieldAddr Tryd.underlying25 rfl ty3 rfl) (Trc.read rfl rfl rfl (s_load Tryd.underlying3 rfl rfl (ldI_eq hx39)) (Trc.pure rfl rfl rfl (.inl fun _ => s_callO rfl ok33 (sim33 hp40) rfl rfl) (Trc.pure rfl rfl rfl (.inl fun _ => s_callO rfl ok36 (sim36 hp41) rfl rfl) (Trc.fl .p rfl rfl rfl (fun _ => trivial) rfl (by rfl) (fun _ => s_alloc (zs := [.int .i64 0, .int .i64 0]) ty25 rfl rfl) (Trc.eff rfl rfl rfl (fun _ => trivial) (s_stores ty25 rfl rfl rfl rfl hH42 (Nat.le_of_eq (sts_mono hH42).symm)) (Trc.nil (fun _ => trivial))))))))))) rfl rfl (by decide +kernel) mixed ?_
        refine f_seq ?_
        refine f_region ?_
        refine f_op rfl rfl (s_mv (v := .bool v6) rfl) ?_
        refine f_op rfl rfl (s_not rfl) ?_
        refine f_op rfl rfl (s_mv (v := .bool (!v6)) rfl) ?_
        refine o_if (fun h43 => ?_) (fun h43 => ?_)
        · skip
          refine o_know 64 rfl (bool_notT h43) ?_
          refine o_bind ?_; intro x44 hx44
          refine o_bind ?_; intro x45 hx45
          refine f_op rfl rfl (s_loads Tryd.underlying25 rfl ty25 rfl (lds_cons (ldI_eq hx44) (lds_cons (ldI_eq hx45) (lds_nil)))) ?_
          refine o_bind ?_; intro x46 hx46
          refine o_bind ?_; intro x47 hx47
          refine f_op rfl rfl (s_loads Tryd.underlying25 rfl ty25 rfl (lds_cons (ldI_eq hx46) (lds_cons (ldI_eq hx47) (lds_nil)))) ?_
          refine o_bind ?_; intro p48 hp48
          refine f_op rfl rfl (s_callO rfl ok34 (sim34 hp48) rfl rfl) ?_
          refine f_op rfl rfl (s_pickF (v := .bool p48.1) rfl rfl) ?_
          refine f_nil ?_
          refine f_know 11 rfl (bool_T h43) ?_
          refine f_keep [5, 6, 7, 8, 10, 11, 16, 18, 19, 20, 68] ?_
          exact s29_j1 _ (fun v1_ v2_ v3_ v4_ v5_ v6_ v7_ v8_ v9_ H_ => ih v1_ v2_ v3_ v4_ v5_ v6_ v7_ v8_ v9_ H_) v1 v2 v3 v4 v5 true H35.n v7 v8 v9 p48.1 H42
        · skip
          refine o_know 64 rfl (bool_notF h43) ?_
          refine f_no rfl rfl ?_
          refine f_no rfl rfl ?_
          refine f_no rfl rfl ?_
          refine f_op rfl rfl (s_pickT (v := .bool true) rfl rfl) ?_
          refine f_nil ?_
          refine f_know 11 rfl (bool_F h43) ?_
          refine f_keep [5, 6, 7, 8, 10, 11, 16, 18, 19, 20, 68] ?_
          exact s29_j1 _ (fun v1_ v2_ v3_ v4_ v5_ v6_ v7_ v8_ v9_ H_ => ih v1_ v2_ v3_ v4_ v5_ v6_ v7_ v8_ v9_ H_) v1 v2 v3 v4 v5 false H35.n v7 v8 v9 true H42
    · skip
      refine f_know 21 rfl (dec_false h1) ?_
      refine f_condF rfl ?_
      refine f_exit rfl ?_
      refine f_seq ?_
      refine f_region ?_
      refine o_bind ?_; intro x49 hx49
      refine o_bind ?_; intro x50 hx50
      refine f_op rfl rfl (s_loads Tryd.underlying25 rfl ty25 rfl (lds_cons (ldI_eq hx49) (lds_cons (ldI_eq hx50) (lds_nil)))) ?_
      refine f_op rfl rfl (s_mv (v := .bool v6) rfl) ?_
      refine o_bind ?_; intro H51 hH51
      refine f_op rfl rfl (s_stores ty25 rfl rfl rfl rfl hH51 (Nat.le_of_eq (sts_mono hH51).symm)) ?_
      refine f_op rfl rfl (s_as (v := .bool v6) rfl) ?_
      refine f_nil ?_
      refine f_bind ?_; intro x52 hx52
      refine f_bind ?_; intro x53 hx53
      exact f_ret (.cells Tryd.underlying25 rfl sz25 rfl (lds_cons (ldI_eq hx52) (lds_cons (ldI_eq hx53) (lds_nil))) (.tmp rfl (.nil))) rfl

theorem sim29 {a0 : Sl} {a1_0 : Int} {a1_1 : Int} {a1_2 : Int} {a1_3 : Int} {a2_0 : Int} {a2_1 : Int} {a3_0 : Int} {a3_1 : Int} {H : Hp} {p : (Int × Int × Bool) × Hp} (h : r29 a0 a1_0 a1_1 a1_2 a1_3 a2_0 a2_1 a3_0 a3_1 H = some p) : CallSim Tryd.prog 29 [.sl a0, .agg [.int .i64 a1_0, .int .i64 a1_1, .int .i64 a1_2, .int .i64 a1_3], .agg [.int .i64 a2_0, .int .i64 a2_1], .agg [.int .i64 a3_0, .int .i64 a3_1]] H (.tup [.agg [.int .i64 p.1.1, .int .i64 p.1.2.1], .bool p.1.2.2]) p.2 := by
  refine callSim (fn := Tryd.f29) (ret := ret29) Tryd.func29 rfl Tryd.ntmps29 rfl ?_ h
  unfold r29
  refine f_seq ?_
  refine f_region ?_
  refine f_op rfl rfl (s_box (v := .agg [.int .i64 a1_0, .int .i64 a1_1, .int .i64 a1_2, .int .i64 a1_3]) rfl rfl) ?_
  refine f_op rfl rfl (s_box (v := .agg [.int .i64 a2_0, .int .i64 a2_1]) rfl rfl) ?_
  refine f_op rfl rfl (s_box (v := .agg [.int .i64 a3_0, .int .i64 a3_1]) rfl rfl) ?_
  refine f_op rfl rfl (s_alloc (zs := [.int .i64 0, .int .i64 0]) ty25 rfl rfl) ?_
  refine f_op rfl rfl (s_as (v := .bool false) rfl) ?_
  refine o_hp ?_; intro H1 hH1
  refine f_nil ?_
  refine f_seq ?_
  refine f_region ?_
  refine f_op rfl rfl (s_alloc (zs := [.int .i64 0, .int .i64 0]) ty25 rfl rfl) ?_
  refine o_hp ?_; intro H2 hH2
  refine f_nil ?_
  refine f_seq ?_
  refine f_region ?_
  refine f_op rfl rfl (s_as (v := .bool false) rfl) ?_
  refine f_nil ?_
  refine f_seq ?_
  refine f_seq ?_
  refine f_region ?_
  refine f_op rfl rfl (s_mv (v := .sl a0) rfl) ?_
  refine o_bind ?_; intro p3 hp3
  refine f_op rfl rfl (s_callF rfl ok48 (sim48 hp3)) ?_
  refine f_op rfl rfl (s_lenS rfl Tryd.underlying75 rfl) ?_
  refine f_op rfl rfl (s_mv (v := .int .i64 0) rfl) ?_
  refine f_nil ?_
  refine f_block ?_
  refine f_loop ?_
  refine f_keep [5, 6, 7, 8, 10, 11, 18, 19, 20] ?_
  exact s29_l0 FUEL H.n ((H.push (.cells [.int .i64 a1_0, .int .i64 a1_1, .int .i64 a1_2, .int .i64 a1_3] false)).n) (((H.push (.cells [.int .i64 a1_0, .int .i64 a1_1, .int .i64 a1_2, .int .i64 a1_3] false)).push (.cells [.int .i64 a2_0, .int .i64 a2_1] false)).n) ((((H.push (.cells [.int .i64 a1_0, .int .i64 a1_1, .int .i64 a1_2, .int .i64 a1_3] false)).push (.cells [.int .i64 a2_0, .int .i64 a2_1] false)).push (.cells [.int .i64 a3_0, .int .i64 a3_1] false)).n) H1.n false p3.1 (p3.1.len : Int) 0 p3.2

/- 10 congou/congouref05.Room -/
theorem ok10 : FnOk Tryd.prog 10 := ⟨⟨Tryd.f10, Tryd.func10, by kernel_rfl, rfl⟩⟩
theorem sim10 {a0 : Sl} {a1_0 : Int} {a1_1 : Int} {H : Hp} {p : Bool × Hp} (h : r10 a0 a1_0 a1_1 H = some p) : CallSim Tryd.prog 10 [.sl a0, .agg [.int .i64 a1_0, .int .i64 a1_1]] H (.bool p.1) p.2 := by
  refine callSim (fn := Tryd.f10) (ret := ret10) Tryd.func10 rfl Tryd.ntmps10 rfl ?_ h
  unfold r10
  refine f_seq ?_
  refine f_region ?_
  refine f_op rfl rfl (s_box (v := .agg [.int .i64 a1_0, .int .i64 a1_1]) rfl rfl) ?_
  refine f_op rfl rfl (s_as (v := .bool false) rfl) ?_
  refine o_hp ?_; intro H1 hH1
  refine f_nil ?_
  refine f_seq ?_
  refine f_seq ?_
  refine f_region ?_
  refine f_op rfl rfl (s_mv (v := .sl a0) rfl) ?_
  refine o_bind ?_; intro x2 hx2
  refine o_bind ?_; intro x3 hx3
  refine f_op rfl rfl (s_loads Tryd.underlying23 rfl ty23 rfl (lds_cons (ldI_eq hx2) (lds_cons (ldI_eq hx3) (lds_nil)))) ?_
  refine o_bind ?_; intro p4 hp4
  refine f_op rfl rfl (s_callO rfl ok28 (sim28 hp4) rfl rfl) ?_
  refine o_bind ?_; intro p5 hp5
  refine f_op rfl rfl (s_callF rfl ok27 (sim27 hp5)) ?_
  refine f_op rfl rfl (s_not rfl) ?_
  refine f_nil ?_
  refine f_if (fun h6 => ?_) (fun h6 => ?_)
  · skip
    refine f_know 11 rfl (bool_notT h6) ?_
    refine f_condF rfl ?_
    refine f_skip ?_
    refine f_seq ?_
    refine f_region ?_
    refine f_op rfl rfl (s_mv (v := .sl a0) rfl) ?_
    refine o_bind ?_; intro x7 hx7
    refine o_bind ?_; intro x8 hx8
    refine f_op rfl rfl (s_loads Tryd.underlying23 rfl ty23 rfl (lds_cons (ldI_eq hx7) (lds_cons (ldI_eq hx8) (lds_nil)))) ?_
    refine o_bind ?_; intro p9 hp9
    refine f_op rfl rfl (s_callO rfl ok28 (sim28 hp9) rfl rfl) ?_
    refine o_bind ?_; intro p10 hp10
    refine f_op rfl rfl (s_callO rfl ok30 (sim30 hp10) rfl rfl) ?_
    refine o_bind ?_; intro p11 hp11
    refine f_op rfl rfl (s_callO rfl ok30 (sim30 hp11) rfl rfl) ?_
    refine o_bind ?_; intro p12 hp12
    refine f_op rfl rfl (s_callF rfl ok29 (sim29 hp12)) ?_
    refine f_op rfl rfl (s_mv (v := .tup [.agg [.int .i64 p12.1.1, .int .i64 p12.1.2.1], .bool p12.1.2.2]) rfl) ?_
    refine f_op rfl rfl (s_extract (r := .agg [.int .i64 p12.1.1, .int .i64 p12.1.2.1]) rfl rfl) ?_
    refine f_op rfl rfl (s_extract (r := .bool p12.1.2.2) rfl rfl) ?_
    refine f_op rfl rfl (s_alloc (zs := [.int .i64 0, .int .i64 0]) ty25 rfl rfl) ?_
    refine o_bind ?_; intro H13 hH13
    refine f_op rfl rfl (s_stores ty25 rfl rfl rfl rfl hH13 (Nat.le_of_eq (sts_mono hH13).symm)) ?_
    refine f_op rfl rfl (s_as (v := .bool p12.1.2.2) rfl) ?_
    refine f_nil ?_
    refine f_seq ?_
    refine f_region ?_
    refine f_op rfl rfl (s_fieldAddr Tryd.underlying25 rfl ty3 rfl) ?_
    refine o_bind ?_; intro x14 hx14
    refine f_op rfl rfl (s_load Tryd.underlying3 rfl rfl (ldI_eq hx14)) ?_
    refine f_op rfl rfl (s_gtr rfl rfl) ?_
    refine f_op rfl rfl (s_as (v := .bool (decide (0 < x14))) rfl) ?_
    refine f_nil ?_
    exact f_ret (.tmp rfl (.nil)) rfl
  · skip
    refine f_know 11 rfl (bool_notF h6) ?_
    refine f_condT rfl ?_
    refine f_seq ?_
    refine f_region ?_
    refine f_op rfl rfl (s_as (v := .bool false) rfl) ?_
    refine f_nil ?_
    exact f_ret (.tmp rfl (.nil)) rfl

/- 11 congou/congoulaw05.awake -/
theorem ok11 : FnOk Tryd.prog 11 := ⟨⟨Tryd.f11, Tryd.func11, by kernel_rfl, rfl⟩⟩
theorem sim11 {app : App} (happ : AppSim Tryd.prog app) {H : Hp} {p : Bool × Hp} (h : r11 app H = some p) : CallSim Tryd.prog 11 [] H (.bool p.1) p.2 := by
  refine callSim (fn := Tryd.f11) (ret := ret11) Tryd.func11 rfl Tryd.ntmps11 rfl ?_ h
  unfold r11
  refine f_seq ?_
  refine f_region ?_
  refine f_op rfl rfl (s_as (v := .bool false) rfl) ?_
  refine f_nil ?_
  refine f_seq ?_
  refine f_region ?_
  refine f_op rfl rfl (s_buildA (cs := [.int .i64 0, .int .i64 10]) Tryd.underlying23 ty23 ty3 rfl rfl) ?_
  refine f_op rfl rfl (s_buildA (cs := [.int .i64 10, .int .i64 0]) Tryd.underlying23 ty23 ty3 rfl rfl) ?_
  refine f_op rfl rfl (s_buildSlice (cs := [.int .i64 0, .int .i64 10, .int .i64 10, .int .i64 0]) Tryd.underlying22 ty23 (by decide) (by decide) rfl (by decide) rfl) ?_
  refine f_op rfl rfl (s_buildA (cs := [.int .i64 0, .int .i64 0]) Tryd.underlying23 ty23 ty3 rfl rfl) ?_
  refine o_bind ?_; intro p1 hp1
  refine f_op rfl rfl (s_callF rfl ok7 (sim7 happ hp1)) ?_
  refine f_op rfl rfl (s_mv (v := .tup [.agg [.int .i64 p1.1.1, .int .i64 p1.1.2.1, .int .i64 p1.1.2.2.1, .int .i64 p1.1.2.2.2.1], .int .i64 p1.1.2.2.2.2]) rfl) ?_
  refine f_op rfl rfl (s_extract (r := .agg [.int .i64 p1.1.1, .int .i64 p1.1.2.1, .int .i64 p1.1.2.2.1, .int .i64 p1.1.2.2.2.1]) rfl rfl) ?_
  refine f_op rfl rfl (s_extract (r := .int .i64 p1.1.2.2.2.2) rfl rfl) ?_
  refine f_op rfl rfl (s_alloc (zs := [.int .i64 0, .int .i64 0, .int .i64 0, .int .i64 0]) ty27 rfl rfl) ?_
  refine o_bind ?_; intro H2 hH2
  refine f_op rfl rfl (s_stores ty27 rfl rfl rfl rfl hH2 (Nat.le_of_eq (sts_mono hH2).symm)) ?_
  refine f_op rfl rfl (s_as (v := .int .i64 p1.1.2.2.2.2) rfl) ?_
  refine f_nil ?_
  refine f_seq ?_
  refine f_region ?_
  refine f_op rfl rfl (s_mv (v := .int .i64 p1.1.2.2.2.2) rfl) ?_
  refine f_op rfl rfl (s_eql rfl rfl) ?_
  refine f_op rfl rfl (s_mv (v := .bool (decide (p1.1.2.2.2.2 = 0))) rfl) ?_
  refine o_if (fun h3 => ?_) (fun h3 => ?_)
  · skip
    refine o_know 13 rfl (dec_true h3) ?_
    refine o_bind ?_; intro x4 hx4
    refine o_bind ?_; intro x5 hx5
    refine o_bind ?_; intro x6 hx6
    refine o_bind ?_; intro x7 hx7
    refine f_op rfl rfl (s_loads Tryd.underlying27 rfl ty27 rfl (lds_cons (ldI_eq hx4) (lds_cons (ldI_eq hx5) (lds_cons (ldI_eq hx6) (lds_cons (ldI_eq hx7) (lds_nil)))))) ?_
    refine f_op rfl rfl (s_build (cs := [.int .i64 5, .int .i64 1]) Tryd.underlying25 ty25 rfl pl25 rfl) ?_
    refine f_op rfl rfl (s_build (cs := [.int .i64 5, .int .i64 1]) Tryd.underlying25 ty25 rfl pl25 rfl) ?_
    refine f_op rfl rfl (s_build (cs := [.int .i64 5, .int .i64 1, .int .i64 5, .int .i64 1]) Tryd.underlying27 ty27 rfl pl27 rfl) ?_
    refine f_op rfl rfl (s_eqAgg eg27 rfl rfl (eq22 Tryd.underlying27 Tryd.underlying25 Tryd.underlying3 Tryd.underlying3 ty25 (by decide) (by decide) (by decide) (by decide) rfl rfl rfl rfl sih27 sih25 x4 x5 x6 x7 5 1 5 1)) ?_
    refine f_op rfl rfl (s_pickT (v := .bool (((x4 == 5) && (x5 == 1)) && ((x6 == 5) && (x7 == 1)))) rfl rfl) ?_
    refine f_op rfl rfl (s_as (v := .bool (((x4 == 5) && (x5 == 1)) && ((x6 == 5) && (x7 == 1)))) rfl) ?_
    refine f_nil ?_
    exact f_ret (.tmp rfl (.nil)) rfl
  · skip
    refine o_know 13 rfl (dec_false h3) ?_
    refine f_no rfl rfl ?_
    refine f_no rfl rfl ?_
    refine f_no rfl rfl ?_
    refine f_no rfl rfl ?_
    refine f_no rfl rfl ?_
    refine f_op rfl rfl (s_pickF (v := .bool false) rfl rfl) ?_
    refine f_op rfl rfl (s_as (v := .bool false) rfl) ?_
    refine f_nil ?_
    exact f_ret (.tmp rfl (.nil)) rfl

/- 12 congou/congoulaw05.own -/
theorem ok12 : FnOk Tryd.prog 12 := ⟨⟨Tryd.f12, Tryd.func12, by kernel_rfl, rfl⟩⟩
theorem sim12 {a0_0 : Int} {a0_1 : Int} {a0_2 : Int} {a0_3 : Int} {H : Hp} {p : (Int × Int × Int × Int) × Hp} (h : r12 a0_0 a0_1 a0_2 a0_3 H = some p) : CallSim Tryd.prog 12 [.agg [.int .i64 a0_0, .int .i64 a0_1, .int .i64 a0_2, .int .i64 a0_3]] H (.agg [.int .i64 p.1.1, .int .i64 p.1.2.1, .int .i64 p.1.2.2.1, .int .i64 p.1.2.2.2]) p.2 := by
  refine callSim (fn := Tryd.f12) (ret := ret12) Tryd.func12 rfl Tryd.ntmps12 rfl ?_ h
  unfold r12
  refine f_seq ?_
  refine f_region ?_
  refine f_op rfl rfl (s_box (v := .agg [.int .i64 a0_0, .int .i64 a0_1, .int .i64 a0_2, .int .i64 a0_3]) rfl rfl) ?_
  refine f_op rfl rfl (s_alloc (zs := [.int .i64 0, .int .i64 0, .int .i64 0, .int .i64 0]) ty36 rfl rfl) ?_
  refine o_hp ?_; intro H1 hH1
  refine f_nil ?_
  refine f_seq ?_
  refine f_region ?_
  refine f_op rfl rfl (s_fieldAddr Tryd.underlying27 rfl ty25 rfl) ?_
  refine o_bind ?_; intro x2 hx2
  refine o_bind ?_; intro x3 hx3
  refine f_op rfl rfl (s_loads Tryd.underlying25 rfl ty25 rfl (lds_cons (ldI_eq hx2) (lds_cons (ldI_eq hx3) (lds_nil)))) ?_
  refine f_op rfl rfl (s_fieldAddr Tryd.underlying27 rfl ty25 rfl) ?_
  refine o_bind ?_; intro x4 hx4
  refine o_bind ?_; intro x5 hx5
  refine f_op rfl rfl (s_loads Tryd.underlying25 rfl ty25 rfl (lds_cons (ldI_eq hx4) (lds_cons (ldI_eq hx5) (lds_nil)))) ?_
  refine f_op rfl rfl (s_build (cs := [.int .i64 x2, .int .i64 x3, .int .i64 x4, .int .i64 x5]) Tryd.underlying36 ty36 rfl pl36 rfl) ?_
  refine o_bind ?_; intro H6 hH6
  refine f_op rfl rfl (s_stores ty36 rfl rfl rfl rfl hH6 (Nat.le_of_eq (sts_mono hH6).symm)) ?_
  refine f_nil ?_
  refine f_bind ?_; intro x7 hx7
  refine f_bind ?_; intro x8 hx8
  refine f_bind ?_; intro x9 hx9
  refine f_bind ?_; intro x10 hx10
  exact f_ret (.cells Tryd.underlying36 rfl sz36 rfl (lds_cons (ldI_eq hx7) (lds_cons (ldI_eq hx8) (lds_cons (ldI_eq hx9) (lds_cons (ldI_eq hx10) (lds_nil))))) (.nil)) rfl

/- 49 congou/congouref05.last -/
theorem ok49 : FnOk Tryd.prog 49 := ⟨⟨Tryd.f49, Tryd.func49, by kernel_rfl, rfl⟩⟩
theorem s49_j3 (kt1 : Sl → Nat → Nat → Sl → Int → Int → Sl → Int → Int → Hp → Option (Bool × Hp)) (hkt1 : ∀ (v1 : Sl) (v2 : Nat) (v3 : Nat) (v4 : Sl) (v5 : Int) (v6 : Int) (v7 : Sl) (v8 : Int) (v9 : Int) (H : Hp), Fin Tryd.prog Tryd.f49 ret49 77 (todoAt (bodyOf Tryd.f49) [1, 0, 1, 0, 0, 1, 1, 0, 0, 1, 1, 1, 0, 0] []) [(0, .sl v1), (3, .ptr v2 0), (6, .ptr v3 0), (9, .sl v4), (10, .int .i64 v5), (11, .int .i64 v6), (32, .sl v7), (33, .int .i64 v8), (34, .int .i64 v9)] H (kt1 v1 v2 v3 v4 v5 v6 v7 v8 v9 H)) (v1 : Sl) (v2 : Nat) (v3 : Nat) (v4 : Sl) (v5 : Int) (v6 : Int) (v7 : Sl) (v8 : Int) (v9 : Int) (v10 : Bool) (H : Hp) : Fin Tryd.prog Tryd.f49 ret49 77 (todoAt (bodyOf Tryd.f49) [1, 0, 1, 0, 0, 1, 1, 0, 0, 1, 1, 1, 0, 0, 1, 1, 0, 0, 1, 1] []) [(0, .sl v1), (3, .ptr v2 0), (6, .ptr v3 0), (9, .sl v4), (10, .int .i64 v5), (11, .int .i64 v6), (32, .sl v7), (33, .int .i64 v8), (34, .int .i64 v9), (74, .bool v10)] H (r49_j3 kt1 v1 v2 v3 v4 v5 v6 v7 v8 v9 v10 H) := by
  unfold r49_j3
  refine f_if (fun h1 => ?_) (fun h1 => ?_)
  · skip
    refine f_know 74 rfl (bool_T h1) ?_
    refine f_condT rfl ?_
    refine f_seq ?_
    refine f_region ?_
    refine f_op rfl rfl (s_as (v := .bool false) rfl) ?_
    refine f_nil ?_
    exact f_ret (.tmp rfl (.nil)) rfl
  · skip
    refine f_know 74 rfl (bool_F h1) ?_
    refine f_condF rfl ?_
    refine f_skip ?_
    refine f_inBlock ?_
    refine f_region ?_
    refine f_op rfl rfl (s_add rfl rfl) ?_
    refine f_op rfl rfl (s_mv (v := .int .i64 (w64 (v9 + 1))) rfl) ?_
    refine f_nil ?_
    refine f_inLoop ?_
    refine f_keep [0, 3, 6, 9, 10, 11, 32, 33, 34] ?_
    exact hkt1 v1 v2 v3 v4 v5 v6 v7 v8 (w64 (v9 + 1)) H

theorem s49_l1 (kt0 : Sl → Nat → Sl → Int → Int → Hp → Option (Bool × Hp)) (hkt0 : ∀ (v1 : Sl) (v2 : Nat) (v3 : Sl) (v4 : Int) (v5 : Int) (H : Hp), Fin Tryd.prog Tryd.f49 ret49 77 (todoAt (bodyOf Tryd.f49) [1, 0, 1, 0, 0] []) [(0, .sl v1), (3, .ptr v2 0), (9, .sl v3), (10, .int .i64 v4), (11, .int .i64 v5)] H (kt0 v1 v2 v3 v4 v5 H)) : ∀ (k_ : Nat) (v1 : Sl) (v2 : Nat) (v3 : Nat) (v4 : Sl) (v5 : Int) (v6 : Int) (v7 : Sl) (v8 : Int) (v9 : Int) (H : Hp), Fin Tryd.prog Tryd.f49 ret49 77 (todoAt (bodyOf Tryd.f49) [1, 0, 1, 0, 0, 1, 1, 0, 0, 1, 1, 1, 0, 0] []) [(0, .sl v1), (3, .ptr v2 0), (6, .ptr v3 0), (9, .sl v4), (10, .int .i64 v5), (11, .int .i64 v6), (32, .sl v7), (33, .int .i64 v8), (34, .int .i64 v9)] H (r49_l1 kt0 k_ v1 v2 v3 v4 v5 v6 v7 v8 v9 H) := by
  intro k_
  induction k_ with
  | zero => intro _ _ _ _ _ _ _ _ _ _; exact f_none
  | succ k_ ih =>
    intro v1 v2 v3 v4 v5 v6 v7 v8 v9 H
    rw [r49_l1]
    refine f_seq ?_
    refine f_region ?_
    refine f_op rfl rfl (s_lss rfl rfl) ?_
    refine f_nil ?_
    refine f_seq ?_
    refine f_if (fun h1 => ?_) (fun h1 => ?_)
    · skip
      refine f_know 35 rfl (dec_true h1) ?_
      refine f_condT rfl ?_
      refine f_skip ?_
      refine f_seq ?_
      refine f_block ?_
      refine f_seq ?_
      refine f_region ?_
      refine o_ck fun g2 => ?_
      refine f_op rfl rfl (s_idx Tryd.underlying22 ty23 rfl rfl g2) ?_
      refine o_bind ?_; intro x3 hx3
      refine o_bind ?_; intro x4 hx4
      refine f_op rfl rfl (s_loads Tryd.underlying23 rfl ty23 rfl (lds_cons (ldI_eq hx3) (lds_cons (ldI_eq hx4) (lds_nil)))) ?_
      refine f_op rfl rfl (s_alloc (zs := [.int .i64 0, .int .i64 0]) ty23 rfl rfl) ?_
      refine o_bind ?_; intro H5 hH5
      refine f_op rfl rfl (s_stores ty23 rfl rfl rfl rfl hH5 (Nat.le_of_eq (sts_mono hH5).symm)) ?_
      refine f_nil ?_
      refine f_seq ?_
      refine f_region ?_
      refine f_op rfl rfl (s_idxA Tryd.underlying23 ty3 rfl rfl (by decide)) ?_
      refine o_bind ?_; intro x6 hx6
      refine f_op rfl rfl (s_load Tryd.underlying3 rfl rfl (ldI_eq hx6)) ?_
      refine f_op rfl rfl (s_idxA Tryd.underlying23 ty3 rfl rfl (by decide)) ?_
      refine o_bind ?_; intro x7 hx7
      refine f_op rfl rfl (s_load Tryd.underlying3 rfl rfl (ldI_eq hx7)) ?_
      refine f_op rfl rfl (s_lss rfl rfl) ?_
      refine f_op rfl rfl (s_mv (v := .bool (decide (x6 < x7))) rfl) ?_
      refine o_if (fun h8 => ?_) (fun h8 => ?_)
      · skip
        refine o_know 43 rfl (dec_true h8) ?_
        refine f_op rfl rfl (s_idxA Tryd.underlying23 ty3 rfl rfl (by decide)) ?_
        refine o_bind ?_; intro x9 hx9
        refine f_op rfl rfl (s_load Tryd.underlying3 rfl rfl (ldI_eq hx9)) ?_
        refine f_op rfl rfl (s_idxA Tryd.underlying23 ty3 rfl rfl (by decide)) ?_
        refine o_bind ?_; intro x10 hx10
        refine f_op rfl rfl (s_load Tryd.underlying3 rfl rfl (ldI_eq hx10)) ?_
        refine f_op rfl rfl (s_lss rfl rfl) ?_
        refine f_op rfl rfl (s_pickT (v := .bool (decide (x9 < x10))) rfl rfl) ?_
        refine f_op rfl rfl (s_mv (v := .bool (decide (x9 < x10))) rfl) ?_
        refine o_if (fun h11 => ?_) (fun h11 => ?_)
        · skip
          refine o_know 50 rfl (dec_true h11) ?_
          refine f_op rfl rfl (s_idxA Tryd.underlying23 ty3 rfl rfl (by decide)) ?_
          refine o_bind ?_; intro x12 hx12
          refine f_op rfl rfl (s_load Tryd.underlying3 rfl rfl (ldI_eq hx12)) ?_
          refine f_op rfl rfl (s_idxA Tryd.underlying23 ty3 rfl rfl (by decide)) ?_
          refine o_bind ?_; intro x13 hx13
          refine f_op rfl rfl (s_load Tryd.underlying3 rfl rfl (ldI_eq hx13)) ?_
          refine f_op rfl rfl (s_sub rfl rfl) ?_
          refine f_op rfl rfl (s_idxA Tryd.underlying23 ty3 rfl rfl (by decide)) ?_
          refine o_bind ?_; intro x14 hx14
          refine f_op rfl rfl (s_load Tryd.underlying3 rfl rfl (ldI_eq hx14)) ?_
          refine f_op rfl rfl (s_idxA Tryd.underlying23 ty3 rfl rfl (by decide)) ?_
          refine o_bind ?_; intro x15 hx15
          refine f_op rfl rfl (s_load Tryd.underlying3 rfl rfl (ldI_eq hx15)) ?_
          refine f_op rfl rfl (s_sub rfl rfl) ?_
          refine f_op rfl rfl (s_mul rfl rfl) ?_
          refine f_op rfl rfl (s_idxA Tryd.underlying23 ty3 rfl rfl (by decide)) ?_
          refine o_bind ?_; intro x16 hx16
          refine f_op rfl rfl (s_load Tryd.underlying3 rfl rfl (ldI_eq hx16)) ?_
          refine f_op rfl rfl (s_idxA Tryd.underlying23 ty3 rfl rfl (by decide)) ?_
          refine o_bind ?_; intro x17 hx17
          refine f_op rfl rfl (s_load Tryd.underlying3 rfl rfl (ldI_eq hx17)) ?_
          refine f_op rfl rfl (s_sub rfl rfl) ?_
          refine f_op rfl rfl (s_idxA Tryd.underlying23 ty3 rfl rfl (by decide)) ?_
          refine o_bind ?_; intro x18 hx18
          refine f_op rfl rfl (s_load Tryd.underlying3 rfl rfl (ldI_eq hx18)) ?_
          refine f_op rfl rfl (s_idxA Tryd.underlying23 ty3 rfl rfl (by decide)) ?_
          refine o_bind ?_; intro x19 hx19
          refine f_op rfl rfl (s_load Tryd.underlying3 rfl rfl (ldI_eq hx19)) ?_
          refine f_op rfl rfl (s_sub rfl rfl) ?_
          refine f_op rfl rfl (s_mul rfl rfl) ?_
          refine f_op rfl rfl (s_gtr rfl rfl) ?_
          refine f_op rfl rfl (s_pickT (v := .bool (decide ((w64 ((w64 (x16 - x17)) * (w64 (x18 - x19)))) < (w64 ((w64 (x12 - x13)) * (w64 (x14 - x15))))))) rfl rfl) ?_
          refine f_nil ?_
          refine f_keep [0, 3, 6, 9, 10, 11, 32, 33, 34, 74] ?_
          exact s49_j3 _ (fun v1_ v2_ v3_ v4_ v5_ v6_ v7_ v8_ v9_ H_ => ih v1_ v2_ v3_ v4_ v5_ v6_ v7_ v8_ v9_ H_) v1 v2 v3 v4 v5 v6 v7 v8 v9 (decide ((w64 ((w64 (x16 - x17)) * (w64 (x18 - x19)))) < (w64 ((w64 (x12 - x13)) * (w64 (x14 - x15)))))) H5
        · skip
          refine o_know 50 rfl (dec_false h11) ?_
          refine f_no rfl rfl ?_
          refine f_no rfl rfl ?_
          refine f_no rfl rfl ?_
          refine f_no rfl rfl ?_
          refine f_no rfl rfl ?_
          refine f_no rfl rfl ?_
          refine f_no rfl rfl ?_
          refine f_no rfl rfl ?_
          refine f_no rfl rfl ?_
          refine f_no rfl rfl ?_
          refine f_no rfl rfl ?_
          refine f_no rfl rfl ?_
          refine f_no rfl rfl ?_
          refine f_no rfl rfl ?_
          refine f_no rfl rfl ?_
          refine f_no rfl rfl ?_
          refine f_no rfl rfl ?_
          refine f_no rfl rfl ?_
          refine f_no rfl rfl ?_
          refine f_no rfl rfl ?_
          refine f_no rfl rfl ?_
          refine f_no rfl rfl ?_
          refine f_no rfl rfl ?_
          refine f_op rfl rfl (s_pickF (v := .bool false) rfl rfl) ?_
          refine f_nil ?_
          refine f_keep [0, 3, 6, 9, 10, 11, 32, 33, 34, 74] ?_
          exact s49_j3 _ (fun v1_ v2_ v3_ v4_ v5_ v6_ v7_ v8_ v9_ H_ => ih v1_ v2_ v3_ v4_ v5_ v6_ v7_ v8_ v9_ H_) v1 v2 v3 v4 v5 v6 v7 v8 v9 false H5
      · skip
        refine o_know 43 rfl (dec_false h8) ?_
        refine f_no rfl rfl ?_
        refine f_no rfl rfl ?_
        refine f_no rfl rfl ?_
        refine f_no rfl rfl ?_
        refine f_no rfl rfl ?_
        refine f_op rfl rfl (s_pickF (v := .bool false) rfl rfl) ?_
        refine f_op rfl rfl (s_mv (v := .bool false) rfl) ?_
        refine f_no rfl rfl ?_
        refine f_no rfl rfl ?_
        refine f_no rfl rfl ?_
        refine f_no rfl rfl ?_
        refine f_no rfl rfl ?_
        refine f_no rfl rfl ?_
        refine f_no rfl rfl ?_
        refine f_no rfl rfl ?_
        refine f_no rfl rfl ?_
        refine f_no rfl rfl ?_
        refine f_no rfl rfl ?_
        refine f_no rfl rfl ?_
        refine f_no rfl rfl ?_
        refine f_no rfl rfl ?_
        refine f_no rfl rfl ?_
        refine f_no rfl rfl ?_
        refine f_no rfl rfl ?_
        refine f_no rfl rfl ?_
        refine f_no rfl rfl ?_
        refine f_no rfl rfl ?_
        refine f_no rfl rfl ?_
        refine f_no rfl rfl ?_
        refine f_no rfl rfl ?_
        refine f_op rfl rfl (s_pickF (v := .bool false) rfl rfl) ?_
        refine f_nil ?_
        refine f_keep [0, 3, 6, 9, 10, 11, 32, 33, 34, 74] ?_
        exact s49_j3 _ (fun v1_ v2_ v3_ v4_ v5_ v6_ v7_ v8_ v9_ H_ => ih v1_ v2_ v3_ v4_ v5_ v6_ v7_ v8_ v9_ H_) v1 v2 v3 v4 v5 v6 v7 v8 v9 false H5
    · skip
      refine f_know 35 rfl (dec_false h1) ?_
      refine f_condF rfl ?_
      refine f_exit rfl ?_
      refine f_inBlock ?_
      refine f_region ?_
      refine f_op rfl rfl (s_add rfl rfl) ?_
      refine f_op rfl rfl (s_mv (v := .int .i64 (w64 (v6 + 1))) rfl) ?_
      refine f_nil ?_
      refine f_inLoop ?_
      refine f_keep [0, 3, 9, 10, 11] ?_
      exact hkt0 v1 v2 v4 v5 (w64 (v6 + 1)) H

theorem s49_j2 (kt0 : Sl → Nat → Sl → Int → Int → Hp → Option (Bool × Hp)) (hkt0 : ∀ (v1 : Sl) (v2 : Nat) (v3 : Sl) (v4 : Int) (v5 : Int) (H : Hp), Fin Tryd.prog Tryd.f49 ret49 77 (todoAt (bodyOf Tryd.f49) [1, 0, 1, 0, 0] []) [(0, .sl v1), (3, .ptr v2 0), (9, .sl v3), (10, .int .i64 v4), (11, .int .i64 v5)] H (kt0 v1 v2 v3 v4 v5 H)) (v1 : Sl) (v2 : Nat) (v3 : Nat) (v4 : Sl) (v5 : Int) (v6 : Int) (v7 : Bool) (H : Hp) : Fin Tryd.prog Tryd.f49 ret49 77 (todoAt (bodyOf Tryd.f49) [1, 0, 1, 0, 0, 1, 1, 0, 0, 1, 0, 1] []) [(0, .sl v1), (3, .ptr v2 0), (6, .ptr v3 0), (9, .sl v4), (10, .int .i64 v5), (11, .int .i64 v6), (31, .bool v7)] H (r49_j2 kt0 v1 v2 v3 v4 v5 v6 v7 H) := by
  unfold r49_j2
  refine f_if (fun h1 => ?_) (fun h1 => ?_)
  · skip
    refine f_know 31 rfl (bool_T h1) ?_
    refine f_condT rfl ?_
    refine f_seq ?_
    refine f_region ?_
    refine f_op rfl rfl (s_as (v := .bool false) rfl) ?_
    refine f_nil ?_
    exact f_ret (.tmp rfl (.nil)) rfl
  · skip
    refine f_know 31 rfl (bool_F h1) ?_
    refine f_condF rfl ?_
    refine f_skip ?_
    refine f_seq ?_
    refine f_region ?_
    refine f_op rfl rfl (s_mv (v := .sl v1) rfl) ?_
    refine f_op rfl rfl (s_lenS rfl Tryd.underlying22 rfl) ?_
    refine f_op rfl rfl (s_mv (v := .int .i64 0) rfl) ?_
    refine f_nil ?_
    refine f_block ?_
    refine f_loop ?_
    refine f_keep [0, 3, 6, 9, 10, 11, 32, 33, 34] ?_
    exact s49_l1 _ hkt0 FUEL v1 v2 v3 v4 v5 v6 v1 (v1.len : Int) 0 H

theorem s49_l0 : ∀ (k_ : Nat) (v1 : Sl) (v2 : Nat) (v3 : Sl) (v4 : Int) (v5 : Int) (H : Hp), Fin Tryd.prog Tryd.f49 ret49 77 (todoAt (bodyOf Tryd.f49) [1, 0, 1, 0, 0] []) [(0, .sl v1), (3, .ptr v2 0), (9, .sl v3), (10, .int .i64 v4), (11, .int .i64 v5)] H (r49_l0 k_ v1 v2 v3 v4 v5 H) := by
  intro k_
  induction k_ with
  | zero => intro _ _ _ _ _ _; exact f_none
  | succ k_ ih =>
    intro v1 v2 v3 v4 v5 H
    rw [r49_l0]
    refine f_seq ?_
    refine f_region ?_
    refine f_op rfl rfl (s_lss rfl rfl) ?_
    refine f_nil ?_
    refine f_seq ?_
    refine f_if (fun h1 => ?_) (fun h1 => ?_)
    · skip
      refine f_know 12 rfl (dec_true h1) ?_
      refine f_condT rfl ?_
      refine f_skip ?_
      refine f_seq ?_
      refine f_block ?_
      refine f_seq ?_
      refine f_region ?_
      refine o_ck fun g2 => ?_
      refine f_op rfl rfl (s_idx Tryd.underlying22 ty23 rfl rfl g2) ?_
      refine o_bind ?_; intro x3 hx3
      refine o_bind ?_; intro x4 hx4
      refine f_op rfl rfl (s_loads Tryd.underlying23 rfl ty23 rfl (lds_cons (ldI_eq hx3) (lds_cons (ldI_eq hx4) (lds_nil)))) ?_
      refine f_op rfl rfl (s_alloc (zs := [.int .i64 0, .int .i64 0]) ty23 rfl rfl) ?_
      refine o_bind ?_; intro H5 hH5
      refine f_op rfl rfl (s_stores ty23 rfl rfl rfl rfl hH5 (Nat.le_of_eq (sts_mono hH5).symm)) ?_
      refine f_nil ?_
      refine f_seq ?_
      refine f_seq ?_
      refine f_region ?_
      refine o_bind ?_; intro x6 hx6
      refine o_bind ?_; intro x7 hx7
      refine f_op rfl rfl (s_loads Tryd.underlying23 rfl ty23 rfl (lds_cons (ldI_eq hx6) (lds_cons (ldI_eq hx7) (lds_nil)))) ?_
      refine o_bind ?_; intro x8 hx8
      refine o_bind ?_; intro x9 hx9
      refine f_op rfl rfl (s_loads Tryd.underlying23 rfl ty23 rfl (lds_cons (ldI_eq hx8) (lds_cons (ldI_eq hx9) (lds_nil)))) ?_
      refine f_op rfl rfl (s_neArr eg23 Tryd.underlying23 Tryd.underlying3 ty3 rfl rfl rfl rfl rfl rfl) ?_
      refine f_op rfl rfl (s_mv (v := .bool (!(AV.keqs [.int .i64 x6, .int .i64 x7] [.int .i64 x8, .int .i64 x9]))) rfl) ?_
      refine o_if (fun h10 => ?_) (fun h10 => ?_)
      · skip
        refine o_know 18 rfl (bool_notT h10) ?_
        refine f_no rfl rfl ?_
        refine f_no rfl rfl ?_
        refine f_no rfl rfl ?_
        refine f_no rfl rfl ?_
        refine f_no rfl rfl ?_
        refine f_op rfl rfl (s_pickF (v := .bool false) rfl rfl) ?_
        refine f_op rfl rfl (s_mv (v := .bool false) rfl) ?_
        refine f_no rfl rfl ?_
        refine f_no rfl rfl ?_
        refine f_no rfl rfl ?_
        refine f_no rfl rfl ?_
        refine f_no rfl rfl ?_
        refine f_op rfl rfl (s_pickF (v := .bool false) rfl rfl) ?_
        refine f_nil ?_
        refine f_keep [0, 3, 6, 9, 10, 11, 31] ?_
        exact s49_j2 _ (fun v1_ v2_ v3_ v4_ v5_ H_ => ih v1_ v2_ v3_ v4_ v5_ H_) v1 v2 H.n v3 v4 v5 false H5
      · skip
        refine o_know 18 rfl (bool_notF h10) ?_
        refine f_op rfl rfl (s_idxA Tryd.underlying23 ty3 rfl rfl (by decide)) ?_
        refine o_bind ?_; intro x11 hx11
        refine f_op rfl rfl (s_load Tryd.underlying3 rfl rfl (ldI_eq hx11)) ?_
        refine f_op rfl rfl (s_idxA Tryd.underlying23 ty3 rfl rfl (by decide)) ?_
        refine o_bind ?_; intro x12 hx12
        refine f_op rfl rfl (s_load Tryd.underlying3 rfl rfl (ldI_eq hx12)) ?_
        refine f_op rfl rfl (s_geq rfl rfl) ?_
        refine f_op rfl rfl (s_pickT (v := .bool (decide (x12 ≤ x11))) rfl rfl) ?_
        refine f_op rfl rfl (s_mv (v := .bool (decide (x12 ≤ x11))) rfl) ?_
        refine o_if (fun h13 => ?_) (fun h13 => ?_)
        · skip
          refine o_know 25 rfl (dec_true h13) ?_
          refine f_op rfl rfl (s_idxA Tryd.underlying23 ty3 rfl rfl (by decide)) ?_
          refine o_bind ?_; intro x14 hx14
          refine f_op rfl rfl (s_load Tryd.underlying3 rfl rfl (ldI_eq hx14)) ?_
          refine f_op rfl rfl (s_idxA Tryd.underlying23 ty3 rfl rfl (by decide)) ?_
          refine o_bind ?_; intro x15 hx15
          refine f_op rfl rfl (s_load Tryd.underlying3 rfl rfl (ldI_eq hx15)) ?_
          refine f_op rfl rfl (s_geq rfl rfl) ?_
          refine f_op rfl rfl (s_pickT (v := .bool (decide (x15 ≤ x14))) rfl rfl) ?_
          refine f_nil ?_
          refine f_keep [0, 3, 6, 9, 10, 11, 31] ?_
          exact s49_j2 _ (fun v1_ v2_ v3_ v4_ v5_ H_ => ih v1_ v2_ v3_ v4_ v5_ H_) v1 v2 H.n v3 v4 v5 (decide (x15 ≤ x14)) H5
        · skip
          refine o_know 25 rfl (dec_false h13) ?_
          refine f_no rfl rfl ?_
          refine f_no rfl rfl ?_
          refine f_no rfl rfl ?_
          refine f_no rfl rfl ?_
          refine f_no rfl rfl ?_
          refine f_op rfl rfl (s_pickF (v := .bool false) rfl rfl) ?_
          refine f_nil ?_
          refine f_keep [0, 3, 6, 9, 10, 11, 31] ?_
          exact s49_j2 _ (fun v1_ v2_ v3_ v4_ v5_ H_ => ih v1_ v2_ v3_ v4_ v5_ H_) v1 v2 H.n v3 v4 v5 false H5
    · skip
      refine f_know 12 rfl (dec_false h1) ?_
      refine f_condF rfl ?_
      refine f_exit rfl ?_
      refine f_seq ?_
      refine f_region ?_
      refine f_op rfl rfl (s_as (v := .bool true) rfl) ?_
      refine f_nil ?_
      exact f_ret (.tmp rfl (.nil)) rfl

theorem sim49 {a0 : Sl} {a1_0 : Int} {a1_1 : Int} {H : Hp} {p : Bool × Hp} (h : r49 a0 a1_0 a1_1 H = some p) : CallSim Tryd.prog 49 [.sl a0, .agg [.int .i64 a1_0, .int .i64 a1_1]] H (.bool p.1) p.2 := by
  refine callSim (fn := Tryd.f49) (ret := ret49) Tryd.func49 rfl Tryd.ntmps49 rfl ?_ h
  unfold r49
  refine f_seq ?_
  refine f_region ?_
  refine f_op rfl rfl (s_box (v := .agg [.int .i64 a1_0, .int .i64 a1_1]) rfl rfl) ?_
  refine f_op rfl rfl (s_as (v := .bool false) rfl) ?_
  refine o_hp ?_; intro H1 hH1
  refine f_nil ?_
  refine f_seq ?_
  refine f_seq ?_
  refine f_region ?_
  refine f_op rfl rfl (s_mv (v := .sl a0) rfl) ?_
  refine f_op rfl rfl (s_lenS rfl Tryd.underlying22 rfl) ?_
  refine f_op rfl rfl (s_mv (v := .int .i64 0) rfl) ?_
  refine f_nil ?_
  refine f_block ?_
  refine f_loop ?_
  refine f_keep [0, 3, 9, 10, 11] ?_
  exact s49_l0 FUEL a0 H.n a0 (a0.len : Int) 0 H1

end Go.Lt.P5
