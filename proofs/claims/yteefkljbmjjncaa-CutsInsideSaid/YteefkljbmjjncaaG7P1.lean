/- PRINTED BY A PROGRAM OF OURS: what each function that 'CutsInside' reaches computes on the abstract heap, and that the translated code does just that. Nothing is asked of the input. -/
import Derived.Test.YteefkljbmjjncaaG7P0
set_option linter.unusedVariables false
set_option linter.unusedSimpArgs false
set_option maxRecDepth 100000
set_option maxHeartbeats 4000000
namespace Go.Lt.P2
open Go Go.Lt Go.Proofs
/- 89 congou/cuts.compare -/
theorem ok89 : FnOk Try.prog 89 := ⟨⟨Try.f89, Try.func89, by kernel_rfl, rfl⟩⟩
theorem sim89 {a0_0 : Int} {a0_1 : Int} {a1_0 : Int} {a1_1 : Int} {H : Hp} {p : Int × Hp} (h : r89 a0_0 a0_1 a1_0 a1_1 H = some p) : CallSim Try.prog 89 [.agg [.int .i64 a0_0, .int .i64 a0_1], .agg [.int .i64 a1_0, .int .i64 a1_1]] H (.int .i64 p.1) p.2 := by
  refine callSim (fn := Try.f89) (ret := ret89) Try.func89 rfl Try.ntmps89 rfl ?_ h
  unfold r89
  refine f_seq ?_
  refine f_region ?_
  refine f_op rfl rfl (s_box (v := .agg [.int .i64 a0_0, .int .i64 a0_1]) rfl rfl) ?_
  refine f_op rfl rfl (s_box (v := .agg [.int .i64 a1_0, .int .i64 a1_1]) rfl rfl) ?_
  refine f_op rfl rfl (s_as (v := .int .i64 0) rfl) ?_
  refine o_hp ?_; intro H1 hH1
  refine f_nil ?_
  refine f_seq ?_
  refine f_region ?_
  refine f_op rfl rfl (s_fieldAddr Try.underlying24 rfl ty3 rfl) ?_
  refine o_bind ?_; intro x2 hx2
  refine f_op rfl rfl (s_load Try.underlying3 rfl rfl (ldI_eq hx2)) ?_
  refine f_op rfl rfl (s_fieldAddr Try.underlying24 rfl ty3 rfl) ?_
  refine o_bind ?_; intro x3 hx3
  refine f_op rfl rfl (s_load Try.underlying3 rfl rfl (ldI_eq hx3)) ?_
  refine f_op rfl rfl (s_mul rfl rfl) ?_
  refine f_op rfl rfl (s_fieldAddr Try.underlying24 rfl ty3 rfl) ?_
  refine o_bind ?_; intro x4 hx4
  refine f_op rfl rfl (s_load Try.underlying3 rfl rfl (ldI_eq hx4)) ?_
  refine f_op rfl rfl (s_fieldAddr Try.underlying24 rfl ty3 rfl) ?_
  refine o_bind ?_; intro x5 hx5
  refine f_op rfl rfl (s_load Try.underlying3 rfl rfl (ldI_eq hx5)) ?_
  refine f_op rfl rfl (s_mul rfl rfl) ?_
  refine o_bind ?_; intro p6 hp6
  refine f_op rfl rfl (s_callO rfl ok84 (sim84 hp6) rfl rfl) ?_
  refine f_op rfl rfl (s_as (v := .int .i64 p6.1) rfl) ?_
  refine f_nil ?_
  exact f_ret (.tmp rfl (.nil)) rfl

/- 70 (congou/cuts.Side).keeps -/
theorem ok70 : FnOk Try.prog 70 := ⟨⟨Try.f70, Try.func70, by kernel_rfl, rfl⟩⟩
theorem sim70 {a0_0 : Int} {a0_1 : Int} {a0_2 : Int} {a1_0 : Int} {a1_1 : Int} {a1_2 : Int} {a1_3 : Int} {H : Hp} {p : Bool × Hp} (h : r70 a0_0 a0_1 a0_2 a1_0 a1_1 a1_2 a1_3 H = some p) : CallSim Try.prog 70 [.agg [.int .i64 a0_0, .int .i64 a0_1, .int .i64 a0_2], .agg [.int .i64 a1_0, .int .i64 a1_1, .int .i64 a1_2, .int .i64 a1_3]] H (.bool p.1) p.2 := by
  refine callSim (fn := Try.f70) (ret := ret70) Try.func70 rfl Try.ntmps70 rfl ?_ h
  unfold r70
  refine f_seq ?_
  refine f_region ?_
  refine f_op rfl rfl (s_box (v := .agg [.int .i64 a0_0, .int .i64 a0_1, .int .i64 a0_2]) rfl rfl) ?_
  refine f_op rfl rfl (s_box (v := .agg [.int .i64 a1_0, .int .i64 a1_1, .int .i64 a1_2, .int .i64 a1_3]) rfl rfl) ?_
  refine f_op rfl rfl (s_as (v := .bool false) rfl) ?_
  refine o_hp ?_; intro H1 hH1
  refine f_nil ?_
  refine f_seq ?_
  refine f_bind ?_; intro x2 hx2
  refine f_bind ?_; intro x3 hx3
  refine f_bind ?_; intro x4 hx4
  refine f_bind ?_; intro x5 hx5
  refine f_bind ?_; intro x6 hx6
  refine f_bind ?_; intro x7 hx7
  refine f_bind ?_; intro x8 hx8
  refine f_bind ?_; intro p9 hp9
  refine f_bind ?_; intro x10 hx10
  refine f_bind ?_; intro p11 hp11
  refine f_bind ?_; intro p12 hp12
  refine f_draw (Φ := fun _ => True) (lim := 1000000) [1, 1, 0, 0, 1, 0, 0, 0, 0] (Trc.read rfl rfl rfl (s_loads Try.underlying47 rfl ty47 rfl (lds_cons (ldI_eq hx2) (lds_cons (ldI_eq hx3) (lds_cons (ldI_eq hx4) (lds_nil))))) (Trc.read rfl rfl rfl (s_loads Try.underlying32 rfl ty32 rfl (lds_cons (ldI_eq hx5) (lds_cons (ldI_eq hx6) (lds_cons (ldI_eq hx7) (lds_cons (ldI_eq hx8) (lds_nil)))))) (Trc.pure rfl rfl rfl (.inl fun _ => s_callO rfl ok69 (sim69 hp9) rfl rfl) (Trc.pure rfl rfl rfl (.inl fun _ => s_fieldAddr Try.underlying47 rfl ty3 rfl) (Trc.read rfl rfl rfl (s_load Try.underlying3 rfl rfl (ldI_eq hx10)) (Trc.pure rfl rfl rfl (.inl fun _ => s_callO rfl ok100 (sim100 hp11) rfl rfl) (Trc.pure rfl rfl rfl (.inl fun _ => s_callO rfl ok89 (sim89 hp12) rfl rfl) (Trc.pure rfl rfl rfl (.inl fun _ => s_leq rfl rfl) (Trc.pure rfl rfl rfl (.inl fun _ => s_as (v := .bool (decide (p12.1 ≤ 0))) rfl) (Trc.nil (fun _ => trivial))))))))))) rfl (by decide +kernel) mixed ?_
  exact f_ret (.tmp rfl (.nil)) rfl

/- 17 congou/cuts.InRound -/
theorem ok17 : FnOk Try.prog 17 := ⟨⟨Try.f17, Try.func17, by kernel_rfl, rfl⟩⟩
theorem s17_j0 {app : App} (happ : AppSim Try.prog app) (v1 : Nat) (v2 : Nat) (v3 : Nat) (v4 : Sl) (v5 : Bool) (H : Hp) : Fin Try.prog Try.f17 ret17 51 (todoAt (bodyOf Try.f17) [1, 1, 0, 1] []) [(3, .ptr v1 0), (4, .ptr v2 0), (5, .ptr v3 0), (6, .sl v4), (26, .bool v5)] H (r17_j0 app v1 v2 v3 v4 v5 H) := by
  unfold r17_j0
  refine f_if (fun h1 => ?_) (fun h1 => ?_)
  · skip
    refine f_know 26 rfl (bool_T h1) ?_
    refine f_condT rfl ?_
    refine f_seq ?_
    refine f_region ?_
    refine o_bind ?_; intro H2 hH2
    refine f_op rfl rfl (s_store (s := 1) ty4 rfl rfl rfl hH2) ?_
    refine o_bind ?_; intro H3 hH3
    refine f_op rfl rfl (s_store (s := 1) ty27 rfl rfl rfl hH3) ?_
    refine f_nil ?_
    refine f_bind ?_; intro x4 hx4
    refine f_bind ?_; intro x5 hx5
    exact f_ret (.cell Try.underlying4 rfl rfl (ldB_eq hx4) (.cell Try.underlying27 rfl rfl (ldI_eq hx5) (.nil))) rfl
  · skip
    refine f_know 26 rfl (bool_F h1) ?_
    refine f_condF rfl ?_
    refine f_skip ?_
    refine f_seq ?_
    refine f_seq ?_
    refine f_region ?_
    refine f_op rfl rfl (s_mv (v := .sl v4) rfl) ?_
    refine o_bind ?_; intro x6 hx6
    refine o_bind ?_; intro x7 hx7
    refine o_bind ?_; intro x8 hx8
    refine o_bind ?_; intro x9 hx9
    refine f_op rfl rfl (s_loads Try.underlying32 rfl ty32 rfl (lds_cons (ldI_eq hx6) (lds_cons (ldI_eq hx7) (lds_cons (ldI_eq hx8) (lds_cons (ldI_eq hx9) (lds_nil)))))) ?_
    refine o_bind ?_; intro p10 hp10
    refine f_op rfl rfl (s_callF rfl ok65 (sim65 happ hp10)) ?_
    refine f_op rfl rfl (s_not rfl) ?_
    refine f_nil ?_
    refine f_if (fun h11 => ?_) (fun h11 => ?_)
    · skip
      refine f_know 30 rfl (bool_notT h11) ?_
      refine f_condF rfl ?_
      refine f_skip ?_
      refine f_seq ?_
      refine f_seq ?_
      refine f_region ?_
      refine f_op rfl rfl (s_mv (v := .sl v4) rfl) ?_
      refine f_op rfl rfl (s_makeFunc rfl rfl) ?_
      refine f_nil ?_
      refine f_block ?_
      refine f_bind ?_; intro p12 hp12
      refine f_bind ?_; intro q13 hq13
      refine f_rangeX happ rfl rfl (lookup_restrict _ [3, 4, 5]) rfl hp12 hq13 ?_
      refine f_if (fun h14 => ?_) (fun h14 => ?_)
      · skip
        refine f_jmp0 h14 ?_
        refine f_inBlock ?_
        refine f_seq ?_
        refine f_region ?_
        refine o_bind ?_; intro H15 hH15
        refine f_op rfl rfl (s_store (s := 1) ty4 rfl rfl rfl hH15) ?_
        refine o_bind ?_; intro H16 hH16
        refine f_op rfl rfl (s_store (s := 1) ty27 rfl rfl rfl hH16) ?_
        refine f_nil ?_
        refine f_bind ?_; intro x17 hx17
        refine f_bind ?_; intro x18 hx18
        refine f_ck fun g19 => ?_
        exact f_retD (.cell Try.underlying4 rfl rfl (ldB_eq hx17) (.cell Try.underlying27 rfl rfl (ldI_eq hx18) (.nil))) rfl (dfrs_of g19)
      · skip
        refine f_if (fun h20 => ?_) (fun h20 => ?_)
        · skip
          refine f_jmp1 h20 ?_
          refine f_bind ?_; intro x21 hx21
          refine f_bind ?_; intro x22 hx22
          refine f_ck fun g23 => ?_
          exact f_retD (.cell Try.underlying4 rfl rfl (ldB_eq hx21) (.cell Try.underlying27 rfl rfl (ldI_eq hx22) (.nil))) rfl (dfrs_of g23)
        · skip
          exact f_none
    · skip
      refine f_know 30 rfl (bool_notF h11) ?_
      refine f_condT rfl ?_
      refine f_seq ?_
      refine f_region ?_
      refine o_bind ?_; intro H24 hH24
      refine f_op rfl rfl (s_store (s := 1) ty4 rfl rfl rfl hH24) ?_
      refine o_bind ?_; intro H25 hH25
      refine f_op rfl rfl (s_store (s := 1) ty27 rfl rfl rfl hH25) ?_
      refine f_nil ?_
      refine f_bind ?_; intro x26 hx26
      refine f_bind ?_; intro x27 hx27
      exact f_ret (.cell Try.underlying4 rfl rfl (ldB_eq hx26) (.cell Try.underlying27 rfl rfl (ldI_eq hx27) (.nil))) rfl

theorem sim17 {app : App} (happ : AppSim Try.prog app) {a0 : Sl} {a1_0 : Int} {a1_1 : Int} {a1_2 : Int} {a1_3 : Int} {H : Hp} {p : (Bool × Int) × Hp} (h : r17 app a0 a1_0 a1_1 a1_2 a1_3 H = some p) : CallSim Try.prog 17 [.sl a0, .agg [.int .i64 a1_0, .int .i64 a1_1, .int .i64 a1_2, .int .i64 a1_3]] H (.tup [.bool p.1.1, .int .i64 p.1.2]) p.2 := by
  refine callSim (fn := Try.f17) (ret := ret17) Try.func17 rfl Try.ntmps17 rfl ?_ h
  unfold r17
  refine f_seq ?_
  refine f_region ?_
  refine f_op rfl rfl (s_box (v := .agg [.int .i64 a1_0, .int .i64 a1_1, .int .i64 a1_2, .int .i64 a1_3]) rfl rfl) ?_
  refine f_op rfl rfl (s_alloc (zs := [.bool false]) ty4 rfl rfl) ?_
  refine f_op rfl rfl (s_alloc (zs := [.int .i64 0]) ty27 rfl rfl) ?_
  refine o_hp ?_; intro H1 hH1
  refine f_nil ?_
  refine f_seq ?_
  refine f_region ?_
  refine f_op rfl rfl (s_mv (v := .sl a0) rfl) ?_
  refine f_op rfl rfl (s_as (v := .sl a0) rfl) ?_
  refine f_nil ?_
  refine f_seq ?_
  refine f_seq ?_
  refine f_region ?_
  refine f_op rfl rfl (s_mv (v := .sl a0) rfl) ?_
  refine o_bind ?_; intro p2 hp2
  refine f_op rfl rfl (s_callF rfl ok63 (sim63 happ hp2)) ?_
  refine f_op rfl rfl (s_not rfl) ?_
  refine f_op rfl rfl (s_mv (v := .bool (!p2.1)) rfl) ?_
  refine o_if (fun h3 => ?_) (fun h3 => ?_)
  · skip
    refine o_know 15 rfl (bool_notT h3) ?_
    refine f_op rfl rfl (s_fieldAddr Try.underlying32 rfl ty24 rfl) ?_
    refine o_bind ?_; intro x4 hx4
    refine o_bind ?_; intro x5 hx5
    refine f_op rfl rfl (s_loads Try.underlying24 rfl ty24 rfl (lds_cons (ldI_eq hx4) (lds_cons (ldI_eq hx5) (lds_nil)))) ?_
    refine o_bind ?_; intro p6 hp6
    refine f_op rfl rfl (s_callO rfl ok64 (sim64 hp6) rfl rfl) ?_
    refine f_op rfl rfl (s_not rfl) ?_
    refine f_op rfl rfl (s_pickF (v := .bool (!p6.1)) rfl rfl) ?_
    refine f_op rfl rfl (s_mv (v := .bool (!p6.1)) rfl) ?_
    refine o_if (fun h7 => ?_) (fun h7 => ?_)
    · skip
      refine o_know 21 rfl (bool_notT h7) ?_
      refine f_op rfl rfl (s_fieldAddr Try.underlying32 rfl ty24 rfl) ?_
      refine o_bind ?_; intro x8 hx8
      refine o_bind ?_; intro x9 hx9
      refine f_op rfl rfl (s_loads Try.underlying24 rfl ty24 rfl (lds_cons (ldI_eq hx8) (lds_cons (ldI_eq hx9) (lds_nil)))) ?_
      refine o_bind ?_; intro p10 hp10
      refine f_op rfl rfl (s_callO rfl ok64 (sim64 hp10) rfl rfl) ?_
      refine f_op rfl rfl (s_not rfl) ?_
      refine f_op rfl rfl (s_pickF (v := .bool (!p10.1)) rfl rfl) ?_
      refine f_nil ?_
      refine f_keep [3, 4, 5, 6, 26] ?_
      exact s17_j0 happ H.n ((H.push (.cells [.int .i64 a1_0, .int .i64 a1_1, .int .i64 a1_2, .int .i64 a1_3] false)).n) (((H.push (.cells [.int .i64 a1_0, .int .i64 a1_1, .int .i64 a1_2, .int .i64 a1_3] false)).push (.cells [.bool false] false)).n) a0 (!p10.1) p2.2
    · skip
      refine o_know 21 rfl (bool_notF h7) ?_
      refine f_no rfl rfl ?_
      refine f_no rfl rfl ?_
      refine f_no rfl rfl ?_
      refine f_no rfl rfl ?_
      refine f_op rfl rfl (s_pickT (v := .bool true) rfl rfl) ?_
      refine f_nil ?_
      refine f_keep [3, 4, 5, 6, 26] ?_
      exact s17_j0 happ H.n ((H.push (.cells [.int .i64 a1_0, .int .i64 a1_1, .int .i64 a1_2, .int .i64 a1_3] false)).n) (((H.push (.cells [.int .i64 a1_0, .int .i64 a1_1, .int .i64 a1_2, .int .i64 a1_3] false)).push (.cells [.bool false] false)).n) a0 true p2.2
  · skip
    refine o_know 15 rfl (bool_notF h3) ?_
    refine f_no rfl rfl ?_
    refine f_no rfl rfl ?_
    refine f_no rfl rfl ?_
    refine f_no rfl rfl ?_
    refine f_op rfl rfl (s_pickT (v := .bool true) rfl rfl) ?_
    refine f_op rfl rfl (s_mv (v := .bool true) rfl) ?_
    refine f_no rfl rfl ?_
    refine f_no rfl rfl ?_
    refine f_no rfl rfl ?_
    refine f_no rfl rfl ?_
    refine f_op rfl rfl (s_pickT (v := .bool true) rfl rfl) ?_
    refine f_nil ?_
    refine f_keep [3, 4, 5, 6, 26] ?_
    exact s17_j0 happ H.n ((H.push (.cells [.int .i64 a1_0, .int .i64 a1_1, .int .i64 a1_2, .int .i64 a1_3] false)).n) (((H.push (.cells [.int .i64 a1_0, .int .i64 a1_1, .int .i64 a1_2, .int .i64 a1_3] false)).push (.cells [.bool false] false)).n) a0 true p2.2

theorem sim17q2 {app : App} (happ : AppSim Try.prog app) {l_ : Nat} {v1 : Nat} {v2 : Nat} {v3 : Nat} {y0_0 : Int} {y0_1 : Int} {y0_2 : Int} {y0_3 : Int} {y0_4 : Int} {y0_5 : Int} {y0_6 : Int} {y0_7 : Int} {y0_8 : Int} {y0_9 : Int} {H : Hp} : FinG Try.prog PostR ⟨51, [], some l_⟩ [.code (siteTab 2).2.1, .beginRound, .code (siteTab 2).2.2] (zipF [33] [.agg [.int .i64 y0_0, .int .i64 y0_1, .int .i64 y0_2, .int .i64 y0_3, .int .i64 y0_4, .int .i64 y0_5, .int .i64 y0_6, .int .i64 y0_7, .int .i64 y0_8, .int .i64 y0_9]] [(3, .ptr v1 0), (4, .ptr v2 0), (5, .ptr v3 0)]) H (r17q2 app l_ v1 v2 v3 y0_0 y0_1 y0_2 y0_3 y0_4 y0_5 y0_6 y0_7 y0_8 y0_9 H) := by
  show FinG Try.prog PostR ⟨51, [], some l_⟩ (todoAt (bodyOf Try.f17) [1, 1, 1, 1, 0, 1, 0, 0] []) [(33, .agg [.int .i64 y0_0, .int .i64 y0_1, .int .i64 y0_2, .int .i64 y0_3, .int .i64 y0_4, .int .i64 y0_5, .int .i64 y0_6, .int .i64 y0_7, .int .i64 y0_8, .int .i64 y0_9]), (3, .ptr v1 0), (4, .ptr v2 0), (5, .ptr v3 0)] H _
  unfold r17q2
  refine f_region ?_
  refine f_op rfl rfl (s_alloc (zs := [.int .i64 0, .int .i64 0, .int .i64 0, .int .i64 0, .int .i64 0, .int .i64 0, .int .i64 0, .int .i64 0, .int .i64 0, .int .i64 0]) ty105 rfl rfl) ?_
  refine o_bind ?_; intro H1 hH1
  refine f_op rfl rfl (s_stores ty105 rfl rfl rfl rfl hH1 (Nat.le_of_eq (sts_mono hH1).symm)) ?_
  refine f_nil ?_
  refine f_bind ?_; intro H2 hH2
  refine f_beginX rfl hH2 ?_
  refine f_block ?_
  refine f_seq ?_
  refine f_region ?_
  refine o_bind ?_; intro x3 hx3
  refine o_bind ?_; intro x4 hx4
  refine o_bind ?_; intro x5 hx5
  refine o_bind ?_; intro x6 hx6
  refine o_bind ?_; intro x7 hx7
  refine o_bind ?_; intro x8 hx8
  refine o_bind ?_; intro x9 hx9
  refine o_bind ?_; intro x10 hx10
  refine o_bind ?_; intro x11 hx11
  refine o_bind ?_; intro x12 hx12
  refine f_op rfl rfl (s_loads Try.underlying105 rfl ty105 rfl (lds_cons (ldI_eq hx3) (lds_cons (ldI_eq hx4) (lds_cons (ldI_eq hx5) (lds_cons (ldI_eq hx6) (lds_cons (ldI_eq hx7) (lds_cons (ldI_eq hx8) (lds_cons (ldI_eq hx9) (lds_cons (ldI_eq hx10) (lds_cons (ldI_eq hx11) (lds_cons (ldI_eq hx12) (lds_nil)))))))))))) ?_
  refine f_op rfl rfl (s_makeFunc rfl rfl) ?_
  refine f_nil ?_
  refine f_block ?_
  refine f_ck fun g13 => ?_
  refine f_bind ?_; intro p14 hp14
  refine f_bind ?_; intro q15 hq15
  refine f_rangeInX happ rfl g13 rfl (lookup_restrict _ [3, 4, 5, 7]) rfl hp14 hq15 ?_
  refine f_if (fun h16 => ?_) (fun h16 => ?_)
  · skip
    refine f_jmp0 h16 ?_
    refine f_inBlock ?_
    refine f_inBlock ?_
    exact f_rend
  · skip
    refine f_if (fun h17 => ?_) (fun h17 => ?_)
    · skip
      refine f_jmp1 h17 ?_
      exact f_rret
    · skip
      exact f_none

theorem sim17q3 {app : App} (happ : AppSim Try.prog app) {l_ : Nat} {v1 : Nat} {v2 : Nat} {v3 : Nat} {v4 : Nat} {y0 : Int} {y1 : Int} {H : Hp} : FinG Try.prog PostR ⟨51, [], some l_⟩ [.code (siteTab 3).2.1, .beginRound, .code (siteTab 3).2.2] (zipF [36, 37] [.int .i64 y0, .int .i64 y1] [(3, .ptr v1 0), (4, .ptr v2 0), (5, .ptr v3 0), (7, .ptr v4 0)]) H (r17q3 app l_ v1 v2 v3 v4 y0 y1 H) := by
  show FinG Try.prog PostR ⟨51, [], some l_⟩ (todoAt (bodyOf Try.f17) [1, 1, 1, 1, 0, 1, 0, 1, 0, 1, 0, 0] []) [(37, .int .i64 y1), (36, .int .i64 y0), (3, .ptr v1 0), (4, .ptr v2 0), (5, .ptr v3 0), (7, .ptr v4 0)] H _
  unfold r17q3
  refine f_seq ?_
  refine f_region ?_
  refine f_op rfl rfl (s_as (v := .int .i64 y0) rfl) ?_
  refine f_nil ?_
  refine f_region ?_
  refine f_op rfl rfl (s_as (v := .int .i64 y1) rfl) ?_
  refine f_nil ?_
  refine f_bind ?_; intro H1 hH1
  refine f_beginX rfl hH1 ?_
  refine f_block ?_
  refine f_seq ?_
  refine f_region ?_
  refine f_op rfl rfl (s_mv (v := .int .i64 y0) rfl) ?_
  refine f_op rfl rfl (s_mv (v := .int .i64 y1) rfl) ?_
  refine f_op rfl rfl (s_build (cs := [.int .i64 y0, .int .i64 y1, .int .i64 0]) Try.underlying47 ty47 rfl pl47 rfl) ?_
  refine f_op rfl rfl (s_alloc (zs := [.int .i64 0, .int .i64 0, .int .i64 0]) ty47 rfl rfl) ?_
  refine o_bind ?_; intro H2 hH2
  refine f_op rfl rfl (s_stores ty47 rfl rfl rfl rfl hH2 (Nat.le_of_eq (sts_mono hH2).symm)) ?_
  refine f_nil ?_
  refine f_seq ?_
  refine f_region ?_
  refine o_bind ?_; intro x3 hx3
  refine o_bind ?_; intro x4 hx4
  refine o_bind ?_; intro x5 hx5
  refine f_op rfl rfl (s_loads Try.underlying47 rfl ty47 rfl (lds_cons (ldI_eq hx3) (lds_cons (ldI_eq hx4) (lds_cons (ldI_eq hx5) (lds_nil))))) ?_
  refine f_op rfl rfl (s_fieldAddr Try.underlying105 rfl ty32 rfl) ?_
  refine o_bind ?_; intro x6 hx6
  refine o_bind ?_; intro x7 hx7
  refine o_bind ?_; intro x8 hx8
  refine o_bind ?_; intro x9 hx9
  refine f_op rfl rfl (s_loads Try.underlying32 rfl ty32 rfl (lds_cons (ldI_eq hx6) (lds_cons (ldI_eq hx7) (lds_cons (ldI_eq hx8) (lds_cons (ldI_eq hx9) (lds_nil)))))) ?_
  refine o_bind ?_; intro p10 hp10
  refine f_op rfl rfl (s_callO rfl ok69 (sim69 hp10) rfl rfl) ?_
  refine o_bind ?_; intro p11 hp11
  refine f_op rfl rfl (s_callO rfl ok68 (sim68 hp11) rfl rfl) ?_
  refine f_op rfl rfl (s_fieldAddr Try.underlying47 rfl ty3 rfl) ?_
  refine o_bind ?_; intro H12 hH12
  refine f_op rfl rfl (s_store (s := 1) ty3 rfl rfl rfl hH12) ?_
  refine f_nil ?_
  refine f_seq ?_
  refine f_region ?_
  refine o_bind ?_; intro x13 hx13
  refine o_bind ?_; intro x14 hx14
  refine o_bind ?_; intro x15 hx15
  refine f_op rfl rfl (s_loads Try.underlying47 rfl ty47 rfl (lds_cons (ldI_eq hx13) (lds_cons (ldI_eq hx14) (lds_cons (ldI_eq hx15) (lds_nil))))) ?_
  refine o_bind ?_; intro x16 hx16
  refine o_bind ?_; intro x17 hx17
  refine o_bind ?_; intro x18 hx18
  refine o_bind ?_; intro x19 hx19
  refine f_op rfl rfl (s_loads Try.underlying32 rfl ty32 rfl (lds_cons (ldI_eq hx16) (lds_cons (ldI_eq hx17) (lds_cons (ldI_eq hx18) (lds_cons (ldI_eq hx19) (lds_nil)))))) ?_
  refine o_bind ?_; intro p20 hp20
  refine f_op rfl rfl (s_callO rfl ok70 (sim70 hp20) rfl rfl) ?_
  refine f_op rfl rfl (s_not rfl) ?_
  refine f_nil ?_
  refine f_if (fun h21 => ?_) (fun h21 => ?_)
  · skip
    refine f_know 50 rfl (bool_notT h21) ?_
    refine f_condF rfl ?_
    refine f_skip ?_
    refine f_inBlock ?_
    exact f_rend
  · skip
    refine f_know 50 rfl (bool_notF h21) ?_
    refine f_condT rfl ?_
    refine f_seq ?_
    refine f_region ?_
    refine o_bind ?_; intro H22 hH22
    refine f_op rfl rfl (s_store (s := 1) ty4 rfl rfl rfl hH22) ?_
    refine o_bind ?_; intro H23 hH23
    refine f_op rfl rfl (s_store (s := 1) ty27 rfl rfl rfl hH23) ?_
    refine f_nil ?_
    exact f_rret

/- 18 congou/congoulaw02.Of -/
theorem ok18 : FnOk Try.prog 18 := ⟨⟨Try.f18, Try.func18, by kernel_rfl, rfl⟩⟩
theorem s18_l0 : ∀ (k_ : Nat) (v1 : Sl) (v2 : Sl) (v3 : Int) (v4 : Int) (H : Hp), Fin Try.prog Try.f18 ret18 27 (todoAt (bodyOf Try.f18) [1, 1, 0, 1, 0, 0] []) [(3, .sl v1), (6, .sl v2), (7, .int .i64 v3), (8, .int .i64 v4)] H (r18_l0 k_ v1 v2 v3 v4 H) := by
  intro k_
  induction k_ with
  | zero => intro _ _ _ _ _; exact f_none
  | succ k_ ih =>
    intro v1 v2 v3 v4 H
    rw [r18_l0]
    refine f_seq ?_
    refine f_region ?_
    refine f_op rfl rfl (s_lss rfl rfl) ?_
    refine f_nil ?_
    refine f_seq ?_
    refine f_if (fun h1 => ?_) (fun h1 => ?_)
    · skip
      refine f_know 9 rfl (dec_true h1) ?_
      refine f_condT rfl ?_
      refine f_skip ?_
      refine f_seq ?_
      refine f_block ?_
      refine f_seq ?_
      refine f_region ?_
      refine f_op rfl rfl (s_mv (v := .int .i64 v4) rfl) ?_
      refine o_ck fun g2 => ?_
      refine f_op rfl rfl (s_idx Try.underlying22 ty46 rfl rfl g2) ?_
      refine o_bind ?_; intro x3 hx3
      refine o_bind ?_; intro x4 hx4
      refine o_bind ?_; intro x5 hx5
      refine f_op rfl rfl (s_loads Try.underlying46 rfl ty46 rfl (lds_cons (ldI_eq hx3) (lds_cons (ldI_eq hx4) (lds_cons (ldI_eq hx5) (lds_nil))))) ?_
      refine f_op rfl rfl (s_alloc (zs := [.int .i64 0, .int .i64 0, .int .i64 0]) ty46 rfl rfl) ?_
      refine f_op rfl rfl (s_as (v := .int .i64 v4) rfl) ?_
      refine o_bind ?_; intro H6 hH6
      refine f_op rfl rfl (s_stores ty46 rfl rfl rfl rfl hH6 (Nat.le_of_eq (sts_mono hH6).symm)) ?_
      refine f_nil ?_
      refine f_seq ?_
      refine f_region ?_
      refine f_op rfl rfl (s_mv (v := .int .i64 v4) rfl) ?_
      refine f_op rfl rfl (s_lss rfl rfl) ?_
      refine f_nil ?_
      refine f_if (fun h7 => ?_) (fun h7 => ?_)
      · skip
        refine f_know 14 rfl (dec_true h7) ?_
        refine f_condT rfl ?_
        refine f_region ?_
        refine f_op rfl rfl (s_mv (v := .sl v1) rfl) ?_
        refine f_op rfl rfl (s_fieldAddr Try.underlying46 rfl ty3 rfl) ?_
        refine o_bind ?_; intro x8 hx8
        refine f_op rfl rfl (s_load Try.underlying3 rfl rfl (ldI_eq hx8)) ?_
        refine f_op rfl rfl (s_fieldAddr Try.underlying46 rfl ty3 rfl) ?_
        refine o_bind ?_; intro x9 hx9
        refine f_op rfl rfl (s_load Try.underlying3 rfl rfl (ldI_eq hx9)) ?_
        refine f_op rfl rfl (s_fieldAddr Try.underlying46 rfl ty3 rfl) ?_
        refine o_bind ?_; intro x10 hx10
        refine f_op rfl rfl (s_load Try.underlying3 rfl rfl (ldI_eq hx10)) ?_
        refine f_op rfl rfl (s_build (cs := [.int .i64 x8, .int .i64 x9, .int .i64 x10]) Try.underlying47 ty47 rfl pl47 rfl) ?_
        refine f_op rfl rfl (s_buildSlice (cs := [.int .i64 x8, .int .i64 x9, .int .i64 x10]) Try.underlying30 ty47 (by decide) (by decide) rfl (by decide) rfl) ?_
        refine o_bind ?_; intro x11 hx11
        refine f_op rfl rfl (s_ap rfl rfl Try.underlying30 Try.underlying30 ty47 rfl rfl rfl rfl rfl rfl rfl hx11) ?_
        refine f_op rfl rfl (s_as (v := .sl x11.1) rfl) ?_
        refine f_nil ?_
        refine f_inBlock ?_
        refine f_region ?_
        refine f_op rfl rfl (s_add rfl rfl) ?_
        refine f_op rfl rfl (s_mv (v := .int .i64 (w64 (v4 + 1))) rfl) ?_
        refine f_nil ?_
        refine f_inLoop ?_
        refine f_keep [3, 6, 7, 8] ?_
        exact ih x11.1 v2 v3 (w64 (v4 + 1)) x11.2
      · skip
        refine f_know 14 rfl (dec_false h7) ?_
        refine f_condF rfl ?_
        refine f_skip ?_
        refine f_inBlock ?_
        refine f_region ?_
        refine f_op rfl rfl (s_add rfl rfl) ?_
        refine f_op rfl rfl (s_mv (v := .int .i64 (w64 (v4 + 1))) rfl) ?_
        refine f_nil ?_
        refine f_inLoop ?_
        refine f_keep [3, 6, 7, 8] ?_
        exact ih v1 v2 v3 (w64 (v4 + 1)) H6
    · skip
      refine f_know 9 rfl (dec_false h1) ?_
      refine f_condF rfl ?_
      refine f_exit rfl ?_
      refine f_seq ?_
      refine f_region ?_
      refine f_op rfl rfl (s_mv (v := .sl v1) rfl) ?_
      refine f_op rfl rfl (s_as (v := .sl v1) rfl) ?_
      refine f_nil ?_
      exact f_ret (.tmp rfl (.nil)) rfl

theorem sim18 {a0 : Sl} {H : Hp} {p : Sl × Hp} (h : r18 a0 H = some p) : CallSim Try.prog 18 [.sl a0] H (.sl p.1) p.2 := by
  refine callSim (fn := Try.f18) (ret := ret18) Try.func18 rfl Try.ntmps18 rfl ?_ h
  unfold r18
  refine f_seq ?_
  refine f_region ?_
  refine f_op rfl rfl (s_as (v := .sl ⟨true, 0, 0, 0, 0, 0⟩) rfl) ?_
  refine f_nil ?_
  refine f_seq ?_
  refine f_region ?_
  refine f_op rfl rfl (s_as (v := .sl ⟨true, 0, 0, 0, 0, 0⟩) rfl) ?_
  refine f_nil ?_
  refine f_seq ?_
  refine f_seq ?_
  refine f_region ?_
  refine f_op rfl rfl (s_mv (v := .sl a0) rfl) ?_
  refine f_op rfl rfl (s_lenS rfl Try.underlying22 rfl) ?_
  refine f_op rfl rfl (s_mv (v := .int .i64 0) rfl) ?_
  refine f_nil ?_
  refine f_block ?_
  refine f_loop ?_
  refine f_keep [3, 6, 7, 8] ?_
  exact s18_l0 FUEL ⟨true, 0, 0, 0, 0, 0⟩ a0 (a0.len : Int) 0 H

/- 19 congou/congouref02.Plate -/
theorem ok19 : FnOk Try.prog 19 := ⟨⟨Try.f19, Try.func19, by kernel_rfl, rfl⟩⟩
theorem s19_j2 (kt1 : Sl → Sl → Int → Int → Hp → Option (Bool × Hp)) (hkt1 : ∀ (v1 : Sl) (v2 : Sl) (v3 : Int) (v4 : Int) (H : Hp), Fin Try.prog Try.f19 ret19 100 (todoAt (bodyOf Try.f19) [1, 1, 0, 1, 0, 0] []) [(0, .sl v1), (19, .sl v2), (20, .int .i64 v3), (21, .int .i64 v4)] H (kt1 v1 v2 v3 v4 H)) (v1 : Sl) (v2 : Sl) (v3 : Int) (v4 : Int) (v5 : Bool) (H : Hp) : Fin Try.prog Try.f19 ret19 100 (todoAt (bodyOf Try.f19) [1, 1, 0, 1, 0, 0, 1, 1, 0, 0, 1, 1] []) [(0, .sl v1), (19, .sl v2), (20, .int .i64 v3), (21, .int .i64 v4), (62, .bool v5)] H (r19_j2 kt1 v1 v2 v3 v4 v5 H) := by
  unfold r19_j2
  refine f_if (fun h1 => ?_) (fun h1 => ?_)
  · skip
    refine f_know 62 rfl (bool_T h1) ?_
    refine f_condT rfl ?_
    refine f_seq ?_
    refine f_region ?_
    refine f_op rfl rfl (s_as (v := .bool false) rfl) ?_
    refine f_nil ?_
    exact f_ret (.tmp rfl (.nil)) rfl
  · skip
    refine f_know 62 rfl (bool_F h1) ?_
    refine f_condF rfl ?_
    refine f_skip ?_
    refine f_inBlock ?_
    refine f_region ?_
    refine f_op rfl rfl (s_add rfl rfl) ?_
    refine f_op rfl rfl (s_mv (v := .int .i64 (w64 (v4 + 1))) rfl) ?_
    refine f_nil ?_
    refine f_inLoop ?_
    refine f_keep [0, 19, 20, 21] ?_
    exact hkt1 v1 v2 v3 (w64 (v4 + 1)) H

theorem s19_l5 (kt4 : Sl → Nat → Int → Sl → Int → Int → Hp → Option (Bool × Hp)) (hkt4 : ∀ (v1 : Sl) (v2 : Nat) (v3 : Int) (v4 : Sl) (v5 : Int) (v6 : Int) (H : Hp), Fin Try.prog Try.f19 ret19 100 (todoAt (bodyOf Try.f19) [1, 1, 1, 0, 1, 0, 0, 1, 1, 0, 0, 1, 1, 0, 0] []) [(0, .sl v1), (6, .ptr v2 0), (7, .int .i64 v3), (64, .sl v4), (65, .int .i64 v5), (66, .int .i64 v6)] H (kt4 v1 v2 v3 v4 v5 v6 H)) : ∀ (k_ : Nat) (v1 : Sl) (v2 : Nat) (v3 : Int) (v4 : Bool) (v5 : Sl) (v6 : Int) (v7 : Int) (v8 : Sl) (v9 : Int) (v10 : Int) (H : Hp), Fin Try.prog Try.f19 ret19 100 (todoAt (bodyOf Try.f19) [1, 1, 1, 0, 1, 0, 0, 1, 1, 0, 0, 1, 1, 0, 0, 1, 0, 0, 1, 0, 1, 0, 0] []) [(0, .sl v1), (6, .ptr v2 0), (7, .int .i64 v3), (8, .bool v4), (64, .sl v5), (65, .int .i64 v6), (66, .int .i64 v7), (74, .sl v8), (75, .int .i64 v9), (76, .int .i64 v10)] H (r19_l5 kt4 k_ v1 v2 v3 v4 v5 v6 v7 v8 v9 v10 H) := by
  intro k_
  induction k_ with
  | zero => intro _ _ _ _ _ _ _ _ _ _ _; exact f_none
  | succ k_ ih =>
    intro v1 v2 v3 v4 v5 v6 v7 v8 v9 v10 H
    rw [r19_l5]
    refine f_seq ?_
    refine f_region ?_
    refine f_op rfl rfl (s_lss rfl rfl) ?_
    refine f_nil ?_
    refine f_seq ?_
    refine f_if (fun h1 => ?_) (fun h1 => ?_)
    · skip
      refine f_know 77 rfl (dec_true h1) ?_
      refine f_condT rfl ?_
      refine f_skip ?_
      refine f_seq ?_
      refine f_block ?_
      refine f_seq ?_
      refine f_region ?_
      refine o_ck fun g2 => ?_
      refine f_op rfl rfl (s_idx Try.underlying22 ty46 rfl rfl g2) ?_
      refine o_bind ?_; intro x3 hx3
      refine o_bind ?_; intro x4 hx4
      refine o_bind ?_; intro x5 hx5
      refine f_op rfl rfl (s_loads Try.underlying46 rfl ty46 rfl (lds_cons (ldI_eq hx3) (lds_cons (ldI_eq hx4) (lds_cons (ldI_eq hx5) (lds_nil))))) ?_
      refine f_op rfl rfl (s_alloc (zs := [.int .i64 0, .int .i64 0, .int .i64 0]) ty46 rfl rfl) ?_
      refine o_bind ?_; intro H6 hH6
      refine f_op rfl rfl (s_stores ty46 rfl rfl rfl rfl hH6 (Nat.le_of_eq (sts_mono hH6).symm)) ?_
      refine f_nil ?_
      refine f_region ?_
      refine f_op rfl rfl (s_mv (v := .bool v4) rfl) ?_
      refine f_op rfl rfl (s_mv (v := .bool v4) rfl) ?_
      refine o_if (fun h7 => ?_) (fun h7 => ?_)
      · skip
        refine o_know 81 rfl (bool_T h7) ?_
        refine f_op rfl rfl (s_mv (v := .int .i64 v3) rfl) ?_
        refine f_op rfl rfl (s_fieldAddr Try.underlying46 rfl ty3 rfl) ?_
        refine o_bind ?_; intro x8 hx8
        refine f_op rfl rfl (s_load Try.underlying3 rfl rfl (ldI_eq hx8)) ?_
        refine f_op rfl rfl (s_fieldAddr Try.underlying46 rfl ty3 rfl) ?_
        refine o_bind ?_; intro x9 hx9
        refine f_op rfl rfl (s_load Try.underlying3 rfl rfl (ldI_eq hx9)) ?_
        refine f_op rfl rfl (s_mul rfl rfl) ?_
        refine f_op rfl rfl (s_fieldAddr Try.underlying46 rfl ty3 rfl) ?_
        refine o_bind ?_; intro x10 hx10
        refine f_op rfl rfl (s_load Try.underlying3 rfl rfl (ldI_eq hx10)) ?_
        refine f_op rfl rfl (s_fieldAddr Try.underlying46 rfl ty3 rfl) ?_
        refine o_bind ?_; intro x11 hx11
        refine f_op rfl rfl (s_load Try.underlying3 rfl rfl (ldI_eq hx11)) ?_
        refine f_op rfl rfl (s_mul rfl rfl) ?_
        refine f_op rfl rfl (s_sub rfl rfl) ?_
        refine f_op rfl rfl (s_mul rfl rfl) ?_
        refine f_op rfl rfl (s_leq rfl rfl) ?_
        refine f_op rfl rfl (s_pickT (v := .bool (decide ((w64 (v3 * (w64 ((w64 (x8 * x9)) - (w64 (x10 * x11)))))) ≤ 0))) rfl rfl) ?_
        refine f_op rfl rfl (s_as (v := .bool (decide ((w64 (v3 * (w64 ((w64 (x8 * x9)) - (w64 (x10 * x11)))))) ≤ 0))) rfl) ?_
        refine f_nil ?_
        refine f_inBlock ?_
        refine f_region ?_
        refine f_op rfl rfl (s_add rfl rfl) ?_
        refine f_op rfl rfl (s_mv (v := .int .i64 (w64 (v10 + 1))) rfl) ?_
        refine f_nil ?_
        refine f_inLoop ?_
        refine f_keep [0, 6, 7, 8, 64, 65, 66, 74, 75, 76] ?_
        exact ih v1 v2 v3 (decide ((w64 (v3 * (w64 ((w64 (x8 * x9)) - (w64 (x10 * x11)))))) ≤ 0)) v5 v6 v7 v8 v9 (w64 (v10 + 1)) H6
      · skip
        refine o_know 81 rfl (bool_F h7) ?_
        refine f_no rfl rfl ?_
        refine f_no rfl rfl ?_
        refine f_no rfl rfl ?_
        refine f_no rfl rfl ?_
        refine f_no rfl rfl ?_
        refine f_no rfl rfl ?_
        refine f_no rfl rfl ?_
        refine f_no rfl rfl ?_
        refine f_no rfl rfl ?_
        refine f_no rfl rfl ?_
        refine f_no rfl rfl ?_
        refine f_no rfl rfl ?_
        refine f_no rfl rfl ?_
        refine f_no rfl rfl ?_
        refine f_op rfl rfl (s_pickF (v := .bool false) rfl rfl) ?_
        refine f_op rfl rfl (s_as (v := .bool false) rfl) ?_
        refine f_nil ?_
        refine f_inBlock ?_
        refine f_region ?_
        refine f_op rfl rfl (s_add rfl rfl) ?_
        refine f_op rfl rfl (s_mv (v := .int .i64 (w64 (v10 + 1))) rfl) ?_
        refine f_nil ?_
        refine f_inLoop ?_
        refine f_keep [0, 6, 7, 8, 64, 65, 66, 74, 75, 76] ?_
        exact ih v1 v2 v3 false v5 v6 v7 v8 v9 (w64 (v10 + 1)) H6
    · skip
      refine f_know 77 rfl (dec_false h1) ?_
      refine f_condF rfl ?_
      refine f_exit rfl ?_
      refine f_seq ?_
      refine f_region ?_
      refine f_op rfl rfl (s_mv (v := .bool v4) rfl) ?_
      refine f_nil ?_
      refine f_if (fun h12 => ?_) (fun h12 => ?_)
      · skip
        refine f_know 98 rfl (bool_T h12) ?_
        refine f_condT rfl ?_
        refine f_seq ?_
        refine f_region ?_
        refine f_op rfl rfl (s_as (v := .bool false) rfl) ?_
        refine f_nil ?_
        exact f_ret (.tmp rfl (.nil)) rfl
      · skip
        refine f_know 98 rfl (bool_F h12) ?_
        refine f_condF rfl ?_
        refine f_skip ?_
        refine f_inBlock ?_
        refine f_region ?_
        refine f_op rfl rfl (s_mv (v := .int .i64 v3) rfl) ?_
        refine f_op rfl rfl (s_add rfl rfl) ?_
        refine f_op rfl rfl (s_as (v := .int .i64 (w64 (v3 + 2))) rfl) ?_
        refine f_nil ?_
        refine f_inLoop ?_
        refine f_keep [0, 6, 7, 64, 65, 66] ?_
        exact hkt4 v1 v2 (w64 (v3 + 2)) v5 v6 v7 H

theorem s19_l4 (kt3 : Sl → Sl → Int → Int → Hp → Option (Bool × Hp)) (hkt3 : ∀ (v1 : Sl) (v2 : Sl) (v3 : Int) (v4 : Int) (H : Hp), Fin Try.prog Try.f19 ret19 100 (todoAt (bodyOf Try.f19) [1, 1, 1, 0, 1, 0, 0] []) [(0, .sl v1), (64, .sl v2), (65, .int .i64 v3), (66, .int .i64 v4)] H (kt3 v1 v2 v3 v4 H)) : ∀ (k_ : Nat) (v1 : Sl) (v2 : Nat) (v3 : Int) (v4 : Sl) (v5 : Int) (v6 : Int) (H : Hp), Fin Try.prog Try.f19 ret19 100 (todoAt (bodyOf Try.f19) [1, 1, 1, 0, 1, 0, 0, 1, 1, 0, 0, 1, 1, 0, 0] []) [(0, .sl v1), (6, .ptr v2 0), (7, .int .i64 v3), (64, .sl v4), (65, .int .i64 v5), (66, .int .i64 v6)] H (r19_l4 kt3 k_ v1 v2 v3 v4 v5 v6 H) := by
  intro k_
  induction k_ with
  | zero => intro _ _ _ _ _ _ _; exact f_none
  | succ k_ ih =>
    intro v1 v2 v3 v4 v5 v6 H
    rw [r19_l4]
    refine f_seq ?_
    refine f_seq ?_
    refine f_region ?_
    refine f_op rfl rfl (s_mv (v := .int .i64 v3) rfl) ?_
    refine f_op rfl rfl (s_leq rfl rfl) ?_
    refine f_nil ?_
    refine f_if (fun h1 => ?_) (fun h1 => ?_)
    · skip
      refine f_know 71 rfl (dec_true h1) ?_
      refine f_condT rfl ?_
      refine f_skip ?_
      refine f_seq ?_
      refine f_block ?_
      refine f_seq ?_
      refine f_region ?_
      refine f_op rfl rfl (s_as (v := .bool true) rfl) ?_
      refine f_nil ?_
      refine f_seq ?_
      refine f_seq ?_
      refine f_region ?_
      refine f_op rfl rfl (s_mv (v := .sl v1) rfl) ?_
      refine f_op rfl rfl (s_lenS rfl Try.underlying22 rfl) ?_
      refine f_op rfl rfl (s_mv (v := .int .i64 0) rfl) ?_
      refine f_nil ?_
      refine f_block ?_
      refine f_loop ?_
      refine f_keep [0, 6, 7, 8, 64, 65, 66, 74, 75, 76] ?_
      exact s19_l5 _ (fun v1_ v2_ v3_ v4_ v5_ v6_ H_ => ih v1_ v2_ v3_ v4_ v5_ v6_ H_) FUEL v1 v2 v3 true v4 v5 v6 v1 (v1.len : Int) 0 H
    · skip
      refine f_know 71 rfl (dec_false h1) ?_
      refine f_condF rfl ?_
      refine f_exit rfl ?_
      refine f_inBlock ?_
      refine f_region ?_
      refine f_op rfl rfl (s_add rfl rfl) ?_
      refine f_op rfl rfl (s_mv (v := .int .i64 (w64 (v6 + 1))) rfl) ?_
      refine f_nil ?_
      refine f_inLoop ?_
      refine f_keep [0, 64, 65, 66] ?_
      exact hkt3 v1 v4 v5 (w64 (v6 + 1)) H

theorem s19_l3 : ∀ (k_ : Nat) (v1 : Sl) (v2 : Sl) (v3 : Int) (v4 : Int) (H : Hp), Fin Try.prog Try.f19 ret19 100 (todoAt (bodyOf Try.f19) [1, 1, 1, 0, 1, 0, 0] []) [(0, .sl v1), (64, .sl v2), (65, .int .i64 v3), (66, .int .i64 v4)] H (r19_l3 k_ v1 v2 v3 v4 H) := by
  intro k_
  induction k_ with
  | zero => intro _ _ _ _ _; exact f_none
  | succ k_ ih =>
    intro v1 v2 v3 v4 H
    rw [r19_l3]
    refine f_seq ?_
    refine f_region ?_
    refine f_op rfl rfl (s_lss rfl rfl) ?_
    refine f_nil ?_
    refine f_seq ?_
    refine f_if (fun h1 => ?_) (fun h1 => ?_)
    · skip
      refine f_know 67 rfl (dec_true h1) ?_
      refine f_condT rfl ?_
      refine f_skip ?_
      refine f_seq ?_
      refine f_block ?_
      refine f_seq ?_
      refine f_region ?_
      refine o_ck fun g2 => ?_
      refine f_op rfl rfl (s_idx Try.underlying22 ty46 rfl rfl g2) ?_
      refine o_bind ?_; intro x3 hx3
      refine o_bind ?_; intro x4 hx4
      refine o_bind ?_; intro x5 hx5
      refine f_op rfl rfl (s_loads Try.underlying46 rfl ty46 rfl (lds_cons (ldI_eq hx3) (lds_cons (ldI_eq hx4) (lds_cons (ldI_eq hx5) (lds_nil))))) ?_
      refine f_op rfl rfl (s_alloc (zs := [.int .i64 0, .int .i64 0, .int .i64 0]) ty46 rfl rfl) ?_
      refine o_bind ?_; intro H6 hH6
      refine f_op rfl rfl (s_stores ty46 rfl rfl rfl rfl hH6 (Nat.le_of_eq (sts_mono hH6).symm)) ?_
      refine f_nil ?_
      refine f_seq ?_
      refine f_region ?_
      refine f_op rfl rfl (s_as (v := .int .i64 (-1)) rfl) ?_
      refine f_nil ?_
      refine f_block ?_
      refine f_loop ?_
      refine f_keep [0, 6, 7, 64, 65, 66] ?_
      exact s19_l4 _ (fun v1_ v2_ v3_ v4_ H_ => ih v1_ v2_ v3_ v4_ H_) FUEL v1 H.n (-1) v2 v3 v4 H6
    · skip
      refine f_know 67 rfl (dec_false h1) ?_
      refine f_condF rfl ?_
      refine f_exit rfl ?_
      refine f_seq ?_
      refine f_region ?_
      refine f_op rfl rfl (s_as (v := .bool true) rfl) ?_
      refine f_nil ?_
      exact f_ret (.tmp rfl (.nil)) rfl

theorem s19_l1 : ∀ (k_ : Nat) (v1 : Sl) (v2 : Sl) (v3 : Int) (v4 : Int) (H : Hp), Fin Try.prog Try.f19 ret19 100 (todoAt (bodyOf Try.f19) [1, 1, 0, 1, 0, 0] []) [(0, .sl v1), (19, .sl v2), (20, .int .i64 v3), (21, .int .i64 v4)] H (r19_l1 k_ v1 v2 v3 v4 H) := by
  intro k_
  induction k_ with
  | zero => intro _ _ _ _ _; exact f_none
  | succ k_ ih =>
    intro v1 v2 v3 v4 H
    rw [r19_l1]
    refine f_seq ?_
    refine f_region ?_
    refine f_op rfl rfl (s_lss rfl rfl) ?_
    refine f_nil ?_
    refine f_seq ?_
    refine f_if (fun h1 => ?_) (fun h1 => ?_)
    · skip
      refine f_know 22 rfl (dec_true h1) ?_
      refine f_condT rfl ?_
      refine f_skip ?_
      refine f_seq ?_
      refine f_block ?_
      refine f_seq ?_
      refine f_region ?_
      refine o_ck fun g2 => ?_
      refine f_op rfl rfl (s_idx Try.underlying22 ty46 rfl rfl g2) ?_
      refine o_bind ?_; intro x3 hx3
      refine o_bind ?_; intro x4 hx4
      refine o_bind ?_; intro x5 hx5
      refine f_op rfl rfl (s_loads Try.underlying46 rfl ty46 rfl (lds_cons (ldI_eq hx3) (lds_cons (ldI_eq hx4) (lds_cons (ldI_eq hx5) (lds_nil))))) ?_
      refine f_op rfl rfl (s_alloc (zs := [.int .i64 0, .int .i64 0, .int .i64 0]) ty46 rfl rfl) ?_
      refine o_bind ?_; intro H6 hH6
      refine f_op rfl rfl (s_stores ty46 rfl rfl rfl rfl hH6 (Nat.le_of_eq (sts_mono hH6).symm)) ?_
      refine f_nil ?_
      refine f_seq ?_
      refine f_region ?_
      refine f_op rfl rfl (s_fieldAddr Try.underlying46 rfl ty3 rfl) ?_
      refine o_bind ?_; intro x7 hx7
      refine f_op rfl rfl (s_load Try.underlying3 rfl rfl (ldI_eq hx7)) ?_
      refine f_op rfl rfl (s_lss rfl rfl) ?_
      refine f_op rfl rfl (s_mv (v := .bool (decide (x7 < (-4)))) rfl) ?_
      refine o_if (fun h8 => ?_) (fun h8 => ?_)
      · skip
        refine o_know 28 rfl (dec_true h8) ?_
        refine f_no rfl rfl ?_
        refine f_no rfl rfl ?_
        refine f_no rfl rfl ?_
        refine f_op rfl rfl (s_pickT (v := .bool true) rfl rfl) ?_
        refine f_op rfl rfl (s_mv (v := .bool true) rfl) ?_
        refine f_no rfl rfl ?_
        refine f_no rfl rfl ?_
        refine f_no rfl rfl ?_
        refine f_op rfl rfl (s_pickT (v := .bool true) rfl rfl) ?_
        refine f_op rfl rfl (s_mv (v := .bool true) rfl) ?_
        refine f_no rfl rfl ?_
        refine f_no rfl rfl ?_
        refine f_no rfl rfl ?_
        refine f_op rfl rfl (s_pickT (v := .bool true) rfl rfl) ?_
        refine f_op rfl rfl (s_mv (v := .bool true) rfl) ?_
        refine f_no rfl rfl ?_
        refine f_no rfl rfl ?_
        refine f_no rfl rfl ?_
        refine f_no rfl rfl ?_
        refine f_no rfl rfl ?_
        refine f_no rfl rfl ?_
        refine f_no rfl rfl ?_
        refine f_no rfl rfl ?_
        refine f_op rfl rfl (s_pickT (v := .bool true) rfl rfl) ?_
        refine f_op rfl rfl (s_mv (v := .bool true) rfl) ?_
        refine f_no rfl rfl ?_
        refine f_no rfl rfl ?_
        refine f_no rfl rfl ?_
        refine f_op rfl rfl (s_pickT (v := .bool true) rfl rfl) ?_
        refine f_op rfl rfl (s_mv (v := .bool true) rfl) ?_
        refine f_no rfl rfl ?_
        refine f_no rfl rfl ?_
        refine f_no rfl rfl ?_
        refine f_op rfl rfl (s_pickT (v := .bool true) rfl rfl) ?_
        refine f_nil ?_
        refine f_keep [0, 19, 20, 21, 62] ?_
        exact s19_j2 _ (fun v1_ v2_ v3_ v4_ H_ => ih v1_ v2_ v3_ v4_ H_) v1 v2 v3 v4 true H6
      · skip
        refine o_know 28 rfl (dec_false h8) ?_
        refine f_op rfl rfl (s_fieldAddr Try.underlying46 rfl ty3 rfl) ?_
        refine o_bind ?_; intro x9 hx9
        refine f_op rfl rfl (s_load Try.underlying3 rfl rfl (ldI_eq hx9)) ?_
        refine f_op rfl rfl (s_gtr rfl rfl) ?_
        refine f_op rfl rfl (s_pickF (v := .bool (decide (4 < x9))) rfl rfl) ?_
        refine f_op rfl rfl (s_mv (v := .bool (decide (4 < x9))) rfl) ?_
        refine o_if (fun h10 => ?_) (fun h10 => ?_)
        · skip
          refine o_know 33 rfl (dec_true h10) ?_
          refine f_no rfl rfl ?_
          refine f_no rfl rfl ?_
          refine f_no rfl rfl ?_
          refine f_op rfl rfl (s_pickT (v := .bool true) rfl rfl) ?_
          refine f_op rfl rfl (s_mv (v := .bool true) rfl) ?_
          refine f_no rfl rfl ?_
          refine f_no rfl rfl ?_
          refine f_no rfl rfl ?_
          refine f_op rfl rfl (s_pickT (v := .bool true) rfl rfl) ?_
          refine f_op rfl rfl (s_mv (v := .bool true) rfl) ?_
          refine f_no rfl rfl ?_
          refine f_no rfl rfl ?_
          refine f_no rfl rfl ?_
          refine f_no rfl rfl ?_
          refine f_no rfl rfl ?_
          refine f_no rfl rfl ?_
          refine f_no rfl rfl ?_
          refine f_no rfl rfl ?_
          refine f_op rfl rfl (s_pickT (v := .bool true) rfl rfl) ?_
          refine f_op rfl rfl (s_mv (v := .bool true) rfl) ?_
          refine f_no rfl rfl ?_
          refine f_no rfl rfl ?_
          refine f_no rfl rfl ?_
          refine f_op rfl rfl (s_pickT (v := .bool true) rfl rfl) ?_
          refine f_op rfl rfl (s_mv (v := .bool true) rfl) ?_
          refine f_no rfl rfl ?_
          refine f_no rfl rfl ?_
          refine f_no rfl rfl ?_
          refine f_op rfl rfl (s_pickT (v := .bool true) rfl rfl) ?_
          refine f_nil ?_
          refine f_keep [0, 19, 20, 21, 62] ?_
          exact s19_j2 _ (fun v1_ v2_ v3_ v4_ H_ => ih v1_ v2_ v3_ v4_ H_) v1 v2 v3 v4 true H6
        · skip
          refine o_know 33 rfl (dec_false h10) ?_
          refine f_op rfl rfl (s_fieldAddr Try.underlying46 rfl ty3 rfl) ?_
          refine o_bind ?_; intro x11 hx11
          refine f_op rfl rfl (s_load Try.underlying3 rfl rfl (ldI_eq hx11)) ?_
          refine f_op rfl rfl (s_lss rfl rfl) ?_
          refine f_op rfl rfl (s_pickF (v := .bool (decide (x11 < (-4)))) rfl rfl) ?_
          refine f_op rfl rfl (s_mv (v := .bool (decide (x11 < (-4)))) rfl) ?_
          refine o_if (fun h12 => ?_) (fun h12 => ?_)
          · skip
            refine o_know 38 rfl (dec_true h12) ?_
            refine f_no rfl rfl ?_
            refine f_no rfl rfl ?_
            refine f_no rfl rfl ?_
            refine f_op rfl rfl (s_pickT (v := .bool true) rfl rfl) ?_
            refine f_op rfl rfl (s_mv (v := .bool true) rfl) ?_
            refine f_no rfl rfl ?_
            refine f_no rfl rfl ?_
            refine f_no rfl rfl ?_
            refine f_no rfl rfl ?_
            refine f_no rfl rfl ?_
            refine f_no rfl rfl ?_
            refine f_no rfl rfl ?_
            refine f_no rfl rfl ?_
            refine f_op rfl rfl (s_pickT (v := .bool true) rfl rfl) ?_
            refine f_op rfl rfl (s_mv (v := .bool true) rfl) ?_
            refine f_no rfl rfl ?_
            refine f_no rfl rfl ?_
            refine f_no rfl rfl ?_
            refine f_op rfl rfl (s_pickT (v := .bool true) rfl rfl) ?_
            refine f_op rfl rfl (s_mv (v := .bool true) rfl) ?_
            refine f_no rfl rfl ?_
            refine f_no rfl rfl ?_
            refine f_no rfl rfl ?_
            refine f_op rfl rfl (s_pickT (v := .bool true) rfl rfl) ?_
            refine f_nil ?_
            refine f_keep [0, 19, 20, 21, 62] ?_
            exact s19_j2 _ (fun v1_ v2_ v3_ v4_ H_ => ih v1_ v2_ v3_ v4_ H_) v1 v2 v3 v4 true H6
          · skip
            refine o_know 38 rfl (dec_false h12) ?_
            refine f_op rfl rfl (s_fieldAddr Try.underlying46 rfl ty3 rfl) ?_
            refine o_bind ?_; intro x13 hx13
            refine f_op rfl rfl (s_load Try.underlying3 rfl rfl (ldI_eq hx13)) ?_
            refine f_op rfl rfl (s_gtr rfl rfl) ?_
            refine f_op rfl rfl (s_pickF (v := .bool (decide (4 < x13))) rfl rfl) ?_
            refine f_op rfl rfl (s_mv (v := .bool (decide (4 < x13))) rfl) ?_
            refine o_if (fun h14 => ?_) (fun h14 => ?_)
            · skip
              refine o_know 43 rfl (dec_true h14) ?_
              refine f_no rfl rfl ?_
              refine f_no rfl rfl ?_
              refine f_no rfl rfl ?_
              refine f_no rfl rfl ?_
              refine f_no rfl rfl ?_
              refine f_no rfl rfl ?_
              refine f_no rfl rfl ?_
              refine f_no rfl rfl ?_
              refine f_op rfl rfl (s_pickT (v := .bool true) rfl rfl) ?_
              refine f_op rfl rfl (s_mv (v := .bool true) rfl) ?_
              refine f_no rfl rfl ?_
              refine f_no rfl rfl ?_
              refine f_no rfl rfl ?_
              refine f_op rfl rfl (s_pickT (v := .bool true) rfl rfl) ?_
              refine f_op rfl rfl (s_mv (v := .bool true) rfl) ?_
              refine f_no rfl rfl ?_
              refine f_no rfl rfl ?_
              refine f_no rfl rfl ?_
              refine f_op rfl rfl (s_pickT (v := .bool true) rfl rfl) ?_
              refine f_nil ?_
              refine f_keep [0, 19, 20, 21, 62] ?_
              exact s19_j2 _ (fun v1_ v2_ v3_ v4_ H_ => ih v1_ v2_ v3_ v4_ H_) v1 v2 v3 v4 true H6
            · skip
              refine o_know 43 rfl (dec_false h14) ?_
              refine f_op rfl rfl (s_fieldAddr Try.underlying46 rfl ty3 rfl) ?_
              refine o_bind ?_; intro x15 hx15
              refine f_op rfl rfl (s_load Try.underlying3 rfl rfl (ldI_eq hx15)) ?_
              refine f_op rfl rfl (s_eql rfl rfl) ?_
              refine f_op rfl rfl (s_mv (v := .bool (decide (x15 = 0))) rfl) ?_
              refine o_if (fun h16 => ?_) (fun h16 => ?_)
              · skip
                refine o_know 47 rfl (dec_true h16) ?_
                refine f_op rfl rfl (s_fieldAddr Try.underlying46 rfl ty3 rfl) ?_
                refine o_bind ?_; intro x17 hx17
                refine f_op rfl rfl (s_load Try.underlying3 rfl rfl (ldI_eq hx17)) ?_
                refine f_op rfl rfl (s_eql rfl rfl) ?_
                refine f_op rfl rfl (s_pickT (v := .bool (decide (x17 = 0))) rfl rfl) ?_
                refine f_op rfl rfl (s_pickF (v := .bool (decide (x17 = 0))) rfl rfl) ?_
                refine f_op rfl rfl (s_mv (v := .bool (decide (x17 = 0))) rfl) ?_
                refine o_if (fun h18 => ?_) (fun h18 => ?_)
                · skip
                  refine o_know 53 rfl (dec_true h18) ?_
                  refine f_no rfl rfl ?_
                  refine f_no rfl rfl ?_
                  refine f_no rfl rfl ?_
                  refine f_op rfl rfl (s_pickT (v := .bool true) rfl rfl) ?_
                  refine f_op rfl rfl (s_mv (v := .bool true) rfl) ?_
                  refine f_no rfl rfl ?_
                  refine f_no rfl rfl ?_
                  refine f_no rfl rfl ?_
                  refine f_op rfl rfl (s_pickT (v := .bool true) rfl rfl) ?_
                  refine f_nil ?_
                  refine f_keep [0, 19, 20, 21, 62] ?_
                  exact s19_j2 _ (fun v1_ v2_ v3_ v4_ H_ => ih v1_ v2_ v3_ v4_ H_) v1 v2 v3 v4 true H6
                · skip
                  refine o_know 53 rfl (dec_false h18) ?_
                  refine f_op rfl rfl (s_fieldAddr Try.underlying46 rfl ty3 rfl) ?_
                  refine o_bind ?_; intro x19 hx19
                  refine f_op rfl rfl (s_load Try.underlying3 rfl rfl (ldI_eq hx19)) ?_
                  refine f_op rfl rfl (s_lss rfl rfl) ?_
                  refine f_op rfl rfl (s_pickF (v := .bool (decide (x19 < (-40)))) rfl rfl) ?_
                  refine f_op rfl rfl (s_mv (v := .bool (decide (x19 < (-40)))) rfl) ?_
                  refine o_if (fun h20 => ?_) (fun h20 => ?_)
                  · skip
                    refine o_know 58 rfl (dec_true h20) ?_
                    refine f_no rfl rfl ?_
                    refine f_no rfl rfl ?_
                    refine f_no rfl rfl ?_
                    refine f_op rfl rfl (s_pickT (v := .bool true) rfl rfl) ?_
                    refine f_nil ?_
                    refine f_keep [0, 19, 20, 21, 62] ?_
                    exact s19_j2 _ (fun v1_ v2_ v3_ v4_ H_ => ih v1_ v2_ v3_ v4_ H_) v1 v2 v3 v4 true H6
                  · skip
                    refine o_know 58 rfl (dec_false h20) ?_
                    refine f_op rfl rfl (s_fieldAddr Try.underlying46 rfl ty3 rfl) ?_
                    refine o_bind ?_; intro x21 hx21
                    refine f_op rfl rfl (s_load Try.underlying3 rfl rfl (ldI_eq hx21)) ?_
                    refine f_op rfl rfl (s_gtr rfl rfl) ?_
                    refine f_op rfl rfl (s_pickF (v := .bool (decide (40 < x21))) rfl rfl) ?_
                    refine f_nil ?_
                    refine f_keep [0, 19, 20, 21, 62] ?_
                    exact s19_j2 _ (fun v1_ v2_ v3_ v4_ H_ => ih v1_ v2_ v3_ v4_ H_) v1 v2 v3 v4 (decide (40 < x21)) H6
              · skip
                refine o_know 47 rfl (dec_false h16) ?_
                refine f_no rfl rfl ?_
                refine f_no rfl rfl ?_
                refine f_no rfl rfl ?_
                refine f_op rfl rfl (s_pickF (v := .bool false) rfl rfl) ?_
                refine f_op rfl rfl (s_pickF (v := .bool false) rfl rfl) ?_
                refine f_op rfl rfl (s_mv (v := .bool false) rfl) ?_
                refine f_op rfl rfl (s_fieldAddr Try.underlying46 rfl ty3 rfl) ?_
                refine o_bind ?_; intro x22 hx22
                refine f_op rfl rfl (s_load Try.underlying3 rfl rfl (ldI_eq hx22)) ?_
                refine f_op rfl rfl (s_lss rfl rfl) ?_
                refine f_op rfl rfl (s_pickF (v := .bool (decide (x22 < (-40)))) rfl rfl) ?_
                refine f_op rfl rfl (s_mv (v := .bool (decide (x22 < (-40)))) rfl) ?_
                refine o_if (fun h23 => ?_) (fun h23 => ?_)
                · skip
                  refine o_know 58 rfl (dec_true h23) ?_
                  refine f_no rfl rfl ?_
                  refine f_no rfl rfl ?_
                  refine f_no rfl rfl ?_
                  refine f_op rfl rfl (s_pickT (v := .bool true) rfl rfl) ?_
                  refine f_nil ?_
                  refine f_keep [0, 19, 20, 21, 62] ?_
                  exact s19_j2 _ (fun v1_ v2_ v3_ v4_ H_ => ih v1_ v2_ v3_ v4_ H_) v1 v2 v3 v4 true H6
                · skip
                  refine o_know 58 rfl (dec_false h23) ?_
                  refine f_op rfl rfl (s_fieldAddr Try.underlying46 rfl ty3 rfl) ?_
                  refine o_bind ?_; intro x24 hx24
                  refine f_op rfl rfl (s_load Try.underlying3 rfl rfl (ldI_eq hx24)) ?_
                  refine f_op rfl rfl (s_gtr rfl rfl) ?_
                  refine f_op rfl rfl (s_pickF (v := .bool (decide (40 < x24))) rfl rfl) ?_
                  refine f_nil ?_
                  refine f_keep [0, 19, 20, 21, 62] ?_
                  exact s19_j2 _ (fun v1_ v2_ v3_ v4_ H_ => ih v1_ v2_ v3_ v4_ H_) v1 v2 v3 v4 (decide (40 < x24)) H6
    · skip
      refine f_know 22 rfl (dec_false h1) ?_
      refine f_condF rfl ?_
      refine f_exit rfl ?_
      refine f_seq ?_
      refine f_seq ?_
      refine f_region ?_
      refine f_op rfl rfl (s_mv (v := .sl v1) rfl) ?_
      refine f_op rfl rfl (s_lenS rfl Try.underlying22 rfl) ?_
      refine f_op rfl rfl (s_mv (v := .int .i64 0) rfl) ?_
      refine f_nil ?_
      refine f_block ?_
      refine f_loop ?_
      refine f_keep [0, 64, 65, 66] ?_
      exact s19_l3 FUEL v1 v1 (v1.len : Int) 0 H

theorem s19_j0 (v1 : Sl) (v2 : Bool) (H : Hp) : Fin Try.prog Try.f19 ret19 100 (todoAt (bodyOf Try.f19) [1, 0, 1] []) [(0, .sl v1), (18, .bool v2)] H (r19_j0 v1 v2 H) := by
  unfold r19_j0
  refine f_if (fun h1 => ?_) (fun h1 => ?_)
  · skip
    refine f_know 18 rfl (bool_T h1) ?_
    refine f_condT rfl ?_
    refine f_seq ?_
    refine f_region ?_
    refine f_op rfl rfl (s_as (v := .bool false) rfl) ?_
    refine f_nil ?_
    exact f_ret (.tmp rfl (.nil)) rfl
  · skip
    refine f_know 18 rfl (bool_F h1) ?_
    refine f_condF rfl ?_
    refine f_skip ?_
    refine f_seq ?_
    refine f_seq ?_
    refine f_region ?_
    refine f_op rfl rfl (s_mv (v := .sl v1) rfl) ?_
    refine f_op rfl rfl (s_lenS rfl Try.underlying22 rfl) ?_
    refine f_op rfl rfl (s_mv (v := .int .i64 0) rfl) ?_
    refine f_nil ?_
    refine f_block ?_
    refine f_loop ?_
    refine f_keep [0, 19, 20, 21] ?_
    exact s19_l1 FUEL v1 v1 (v1.len : Int) 0 H

theorem sim19 {a0 : Sl} {H : Hp} {p : Bool × Hp} (h : r19 a0 H = some p) : CallSim Try.prog 19 [.sl a0] H (.bool p.1) p.2 := by
  refine callSim (fn := Try.f19) (ret := ret19) Try.func19 rfl Try.ntmps19 rfl ?_ h
  unfold r19
  refine f_seq ?_
  refine f_region ?_
  refine f_op rfl rfl (s_as (v := .bool false) rfl) ?_
  refine f_nil ?_
  refine f_seq ?_
  refine f_seq ?_
  refine f_region ?_
  refine f_op rfl rfl (s_mv (v := .sl a0) rfl) ?_
  refine f_op rfl rfl (s_lenS rfl Try.underlying22 rfl) ?_
  refine f_op rfl rfl (s_lss rfl rfl) ?_
  refine f_op rfl rfl (s_mv (v := .bool (decide ((a0.len : Int) < 3))) rfl) ?_
  refine o_if (fun h1 => ?_) (fun h1 => ?_)
  · skip
    refine o_know 14 rfl (dec_true h1) ?_
    refine f_no rfl rfl ?_
    refine f_no rfl rfl ?_
    refine f_no rfl rfl ?_
    refine f_op rfl rfl (s_pickT (v := .bool true) rfl rfl) ?_
    refine f_nil ?_
    refine f_keep [0, 18] ?_
    exact s19_j0 a0 true H
  · skip
    refine o_know 14 rfl (dec_false h1) ?_
    refine f_op rfl rfl (s_mv (v := .sl a0) rfl) ?_
    refine f_op rfl rfl (s_lenS rfl Try.underlying22 rfl) ?_
    refine f_op rfl rfl (s_gtr rfl rfl) ?_
    refine f_op rfl rfl (s_pickF (v := .bool (decide (6 < (a0.len : Int)))) rfl rfl) ?_
    refine f_nil ?_
    refine f_keep [0, 18] ?_
    exact s19_j0 a0 (decide (6 < (a0.len : Int))) H

/- 56 congou/congouref02.Frac -/
theorem ok56 : FnOk Try.prog 56 := ⟨⟨Try.f56, Try.func56, by kernel_rfl, rfl⟩⟩
theorem s56_l0 : ∀ (k_ : Nat) (v1 : Int) (v2 : Int) (v3 : Nat) (v4 : Int) (v5 : Int) (H : Hp), Fin Try.prog Try.f56 ret56 31 (todoAt (bodyOf Try.f56) [1, 1, 1, 0, 0, 0] []) [(0, .int .i64 v1), (1, .int .i64 v2), (4, .ptr v3 0), (5, .int .i64 v4), (6, .int .i64 v5)] H (r56_l0 k_ v1 v2 v3 v4 v5 H) := by
  intro k_
  induction k_ with
  | zero => intro _ _ _ _ _ _; exact f_none
  | succ k_ ih =>
    intro v1 v2 v3 v4 v5 H
    rw [r56_l0]
    refine f_seq ?_
    refine f_seq ?_
    refine f_region ?_
    refine f_op rfl rfl (s_mv (v := .int .i64 v5) rfl) ?_
    refine f_op rfl rfl (s_neq rfl rfl) ?_
    refine f_nil ?_
    refine f_if (fun h1 => ?_) (fun h1 => ?_)
    · skip
      refine f_know 19 rfl (dec_true h1) ?_
      refine f_condT rfl ?_
      refine f_skip ?_
      refine f_block ?_
      refine f_ck fun g2 => ?_
      refine f_draw (Φ := fun _ => True) (lim := 1000000) [0, 0, 0, 0, 0, 0] (Trc.pure rfl rfl rfl (.inl fun _ => s_mv (v := .int .i64 v5) rfl) (Trc.pure rfl rfl rfl (.inl fun _ => s_mv (v := .int .i64 v4) rfl) (Trc.pure rfl rfl rfl (.inl fun _ => s_mv (v := .int .i64 v5) rfl) (Trc.pure rfl rfl rfl (.inl fun _ => s_rem rfl rfl g2) (Trc.pure rfl rfl rfl (.inl fun _ => s_as (v := .int .i64 v5) rfl) (Trc.pure rfl rfl rfl (.inl fun _ => s_as (v := .int .i64 (Int.tmod v4 v5)) rfl) (Trc.nil (fun _ => trivial)))))))) rfl (by decide +kernel) mixed ?_
      refine f_inBlock ?_
      refine f_inLoop ?_
      refine f_keep [0, 1, 4, 5, 6] ?_
      exact ih v1 v2 v3 v5 (Int.tmod v4 v5) H
    · skip
      refine f_know 19 rfl (dec_false h1) ?_
      refine f_condF rfl ?_
      refine f_exit rfl ?_
      refine f_seq ?_
      refine f_ck fun g3 => ?_
      refine f_ck fun g4 => ?_
      refine f_bind ?_; intro H5 hH5
      refine f_draw (Φ := fun _ => True) (lim := 1000000) [0, 0, 0, 0, 0, 0, 0, 2] (Trc.pure rfl rfl rfl (.inl fun _ => s_mv (v := .int .i64 v1) rfl) (Trc.pure rfl rfl rfl (.inl fun _ => s_mv (v := .int .i64 v4) rfl) (Trc.pure rfl rfl rfl (.inl fun _ => s_quo rfl rfl g3) (Trc.pure rfl rfl rfl (.inl fun _ => s_mv (v := .int .i64 v2) rfl) (Trc.pure rfl rfl rfl (.inl fun _ => s_mv (v := .int .i64 v4) rfl) (Trc.pure rfl rfl rfl (.inl fun _ => s_quo rfl rfl g4) (Trc.pure rfl rfl rfl (.inl fun _ => s_build (cs := [.int .i64 (w64 (Int.tdiv v1 v4)), .int .i64 (w64 (Int.tdiv v2 v4))]) Try.underlying24 ty24 rfl pl24 rfl) (Trc.eff rfl rfl rfl (fun _ => trivial) (s_stores ty24 rfl rfl rfl rfl hH5 (Nat.le_of_eq (sts_mono hH5).symm)) (Trc.nil (fun _ => trivial)))))))))) rfl (by decide +kernel) mixed ?_
      refine f_bind ?_; intro x6 hx6
      refine f_bind ?_; intro x7 hx7
      exact f_ret (.cells Try.underlying24 rfl sz24 rfl (lds_cons (ldI_eq hx6) (lds_cons (ldI_eq hx7) (lds_nil))) (.nil)) rfl

theorem s56_j1 (v1 : Int) (v2 : Int) (v3 : Nat) (H : Hp) : Fin Try.prog Try.f56 ret56 31 (todoAt (bodyOf Try.f56) [1, 1] []) [(0, .int .i64 v1), (1, .int .i64 v2), (4, .ptr v3 0)] H (r56_j1 v1 v2 v3 H) := by
  unfold r56_j1
  refine f_seq ?_
  refine f_region ?_
  refine f_op rfl rfl (s_mv (v := .int .i64 v1) rfl) ?_
  refine f_op rfl rfl (s_mv (v := .int .i64 v1) rfl) ?_
  refine f_op rfl rfl (s_neg rfl) ?_
  refine f_op rfl rfl (s_max2 rfl rfl) ?_
  refine f_op rfl rfl (s_mv (v := .int .i64 v2) rfl) ?_
  refine f_op rfl rfl (s_as (v := .int .i64 (if v1 < (w64 (0 - v1)) then (w64 (0 - v1)) else v1)) rfl) ?_
  refine f_op rfl rfl (s_as (v := .int .i64 v2) rfl) ?_
  refine f_nil ?_
  refine f_seq ?_
  refine f_block ?_
  refine f_loop ?_
  refine f_keep [0, 1, 4, 5, 6] ?_
  exact s56_l0 FUEL v1 v2 v3 (if v1 < (w64 (0 - v1)) then (w64 (0 - v1)) else v1) v2 H

theorem sim56 {a0 : Int} {a1 : Int} {H : Hp} {p : (Int × Int) × Hp} (h : r56 a0 a1 H = some p) : CallSim Try.prog 56 [.int .i64 a0, .int .i64 a1] H (.agg [.int .i64 p.1.1, .int .i64 p.1.2]) p.2 := by
  refine callSim (fn := Try.f56) (ret := ret56) Try.func56 rfl Try.ntmps56 rfl ?_ h
  unfold r56
  refine f_seq ?_
  refine f_region ?_
  refine f_op rfl rfl (s_alloc (zs := [.int .i64 0, .int .i64 0]) ty24 rfl rfl) ?_
  refine o_hp ?_; intro H1 hH1
  refine f_nil ?_
  refine f_seq ?_
  refine f_seq ?_
  refine f_region ?_
  refine f_op rfl rfl (s_mv (v := .int .i64 a1) rfl) ?_
  refine f_op rfl rfl (s_lss rfl rfl) ?_
  refine f_nil ?_
  refine f_if (fun h2 => ?_) (fun h2 => ?_)
  · skip
    refine f_know 8 rfl (dec_true h2) ?_
    refine f_condT rfl ?_
    refine f_region ?_
    refine f_op rfl rfl (s_mv (v := .int .i64 a0) rfl) ?_
    refine f_op rfl rfl (s_neg rfl) ?_
    refine f_op rfl rfl (s_mv (v := .int .i64 a1) rfl) ?_
    refine f_op rfl rfl (s_neg rfl) ?_
    refine f_op rfl rfl (s_as (v := .int .i64 (w64 (0 - a0))) rfl) ?_
    refine f_op rfl rfl (s_as (v := .int .i64 (w64 (0 - a1))) rfl) ?_
    refine f_nil ?_
    refine f_keep [0, 1, 4] ?_
    exact s56_j1 (w64 (0 - a0)) (w64 (0 - a1)) H.n H1
  · skip
    refine f_know 8 rfl (dec_false h2) ?_
    refine f_condF rfl ?_
    refine f_skip ?_
    refine f_keep [0, 1, 4] ?_
    exact s56_j1 a0 a1 H.n H1

end Go.Lt.P2
