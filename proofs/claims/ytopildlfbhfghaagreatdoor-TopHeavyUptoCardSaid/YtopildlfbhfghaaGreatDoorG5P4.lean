/- PRINTED BY A PROGRAM OF OURS: what each function that 'TopHeavy' reaches computes on the abstract heap, and that the translated code does just that. Nothing is asked of the input. -/
import Derived.Test.YtopildlfbhfghaaGreatDoorG5P3
set_option linter.unusedVariables false
set_option linter.unusedSimpArgs false
set_option maxRecDepth 100000
set_option maxHeartbeats 4000000
namespace Go.Lt.P10
open Go Go.Lt Go.Proofs Go.Proofs.Tryz
/- 123 slices.DeleteFunc[[]congou/sketch.Count,congou/sketch.Count] -/
theorem ok123 : FnOk prog 123 := ⟨⟨f123, func123, by kernel_rfl, rfl⟩⟩
theorem s123_l0 {app : App} (happ : AppSim prog app) : ∀ (k_ : Nat) (v1 : Sl) (v2 : AV) (v3 v4 : Int) (H : Hp), Fin prog f123 ret123 42 (todoAt (bodyOf f123) [1, 1, 1, 0, 1, 0, 0] []) [(0, .sl v1), (1, v2), (5, .int .i64 v3), (6, .int .i64 v4)] H (r123_l0 app k_ v1 v2 v3 v4 H) := by
 intro k_
 induction k_ with
 | zero => intro _ _ _ _ _; exact f_none
 | succ k_ ih =>
  intro v1 v2 v3 v4 H
  rw [r123_l0]
  refine f_seq (q_ (m_ (.int .i64 v4) rfl (m_ (.sl v1) rfl (p_ rfl (s_lenS rfl underlying58 rfl) (p_ rfl (s_lss rfl rfl) (f_nil ?_))))))
  refine f_if (fun h1 => ?_) (fun h1 => ?_)
  ·refine kT 19 h1 rfl (f_skip (f_seq (f_block (q_ (m_ (.sl v1) rfl (m_ (.int .i64 v4) rfl (o_ck fun g2 => p_ rfl (s_idx underlying58 ty63 rfl rfl g2) (o_bind fun x3 hx3 => o_bind fun x4 hx4 => o_bind fun x5 hx5 => p_ rfl (s_loads underlying63 rfl ty63 rfl (lds_cons (ldI_eq hx3) (lds_cons (ldI_eq hx4) (lds_cons (ldI_eq hx5) (lds_nil))))) (p_ rfl (s_alloc (zs := [.int .i64 0, .int .i64 0, .int .i64 0]) ty63 rfl rfl) ?_)))))))))
   refine o_bind fun H6 hH6 => p_ rfl (s_stores ty63 rfl rfl rfl rfl hH6 (Nat.le_of_eq (sts_mono hH6).symm)) (n_ (m_ v2 rfl (o_bind fun x7 hx7 => o_bind fun x8 hx8 => o_bind fun x9 hx9 => p_ rfl (s_loads underlying63 rfl ty63 rfl (lds_cons (ldI_eq hx7) (lds_cons (ldI_eq hx8) (lds_cons (ldI_eq hx9) (lds_nil))))) (o_bind fun p10 hp10 => o_bind fun x11 hx11 => p_ rfl (s_callv happ rfl rfl hp10) (o_know 28 rfl (asB_eq hx11) (p_ rfl (s_not rfl) (f_nil ?_)))))))
   refine f_if (fun h12 => ?_) (fun h12 => ?_)
   ·exact f_know 29 rfl (bool_notT h12) (f_condF rfl (f_skip (f_inBlock (f_region (m_ (.int .i64 v4) rfl (p_ rfl (s_add rfl rfl) (a_ (.int .i64 (w64 (v4 + 1))) rfl (f_nil (f_inLoop (f_keep [0, 1, 5, 6] (ih v1 v2 v3 (w64 (v4 + 1)) p10.2)))))))))))
   ·refine f_know 29 rfl (bool_notF h12) (f_condT rfl (q_ (m_ (.sl v1) rfl (m_ (.int .i64 v3) rfl (o_bind fun x13 hx13 => o_bind fun x14 hx14 => o_bind fun x15 hx15 => p_ rfl (s_loads underlying63 rfl ty63 rfl (lds_cons (ldI_eq hx13) (lds_cons (ldI_eq hx14) (lds_cons (ldI_eq hx15) (lds_nil))))) (o_ck fun g16 => p_ rfl (s_idx underlying58 ty63 rfl rfl g16) (o_bind fun H17 hH17 => p_ rfl (s_stores ty63 rfl rfl rfl rfl hH17 (Nat.le_of_eq (sts_mono hH17).symm)) (f_nil (f_region ?_)))))))))
    exact m_ (.int .i64 v3) rfl (p_ rfl (s_add rfl rfl) (a_ (.int .i64 (w64 (v3 + 1))) rfl (f_nil (f_inBlock (f_region (m_ (.int .i64 v4) rfl (p_ rfl (s_add rfl rfl) (a_ (.int .i64 (w64 (v4 + 1))) rfl (f_nil (f_inLoop (f_keep [0, 1, 5, 6] (ih v1 v2 (w64 (v3 + 1)) (w64 (v4 + 1)) H17))))))))))))
  ·refine kF 19 h1 rfl (f_exit rfl (q_ (m_ (.sl v1) rfl (m_ (.int .i64 v3) rfl (o_ck fun g18 => p_ rfl (s_slice underlying58 ty63 rfl rfl rfl g18.1 g18.2) (o_bind fun H19 hH19 => p_ rfl (s_clear rfl underlying58 ty63 rfl rfl rfl hH19 (by decide) rfl) (n_ (m_ (.sl v1) rfl (m_ (.int .i64 v3) rfl ?_)))))))))
   exact o_ck fun g20 => p_ rfl (s_slice underlying58 ty63 rfl rfl rfl g20.1 g20.2) (a_ (.sl (v1.cut 3 (0 : Int).toNat (v3 : Int).toNat)) rfl (f_nil (f_ret (.tmp rfl (.nil)) rfl)))

theorem sim123 {app : App} (happ : AppSim prog app) {a0 : Sl} {a1 : AV} {H : Hp} {p : Sl × Hp} (h : r123 app a0 a1 H = some p) : CallSim prog 123 [.sl a0, a1] H (.sl p.1) p.2 := by
 refine callSim (fn := f123) (ret := ret123) func123 rfl Tryz.ntmps123 rfl ?_ h
 unfold r123
 refine q_ (a_ (.sl ⟨true, 0, 0, 0, 0, 0⟩) rfl (n_ (m_ (.sl a0) rfl (m_ a1 rfl (o_bind fun p1 hp1 => p_ rfl (s_callF rfl ok73 (sim73 happ hp1)) (a_ (.int .i64 p1.1) rfl (f_nil (f_seq (q_ (m_ (.int .i64 p1.1) rfl ?_))))))))))
 refine p_ rfl (s_eql rfl rfl) (f_nil ?_)
 refine f_if (fun h2 => ?_) (fun h2 => ?_)
 ·exact kT 12 h2 rfl (q_ (m_ (.sl a0) rfl (a_ (.sl a0) rfl (f_nil (f_ret (.tmp rfl (.nil)) rfl)))))
 ·exact kF 12 h2 rfl (f_skip (f_seq (q_ (m_ (.int .i64 p1.1) rfl (p_ rfl (s_add rfl rfl) (a_ (.int .i64 (w64 (p1.1 + 1))) rfl (f_nil (f_block (f_loop (f_keep [0, 1, 5, 6] (s123_l0 happ FUEL a0 a1 p1.1 (w64 (p1.1 + 1)) p1.2)))))))))))

/- 124 (*congou/sketch.list).lessen$1 -/
theorem ok124 : FnOk prog 124 := ⟨⟨f124, func124, by kernel_rfl, rfl⟩⟩
theorem sim124 {a0_0 : Int} {a0_1 : Int} {a0_2 : Int} {H : Hp} {p : Bool × Hp} (h : r124 a0_0 a0_1 a0_2 H = some p) : CallSim prog 124 [.agg [.int .i64 a0_0, .int .i64 a0_1, .int .i64 a0_2]] H (.bool p.1) p.2 := by
 refine callSim (fn := f124) (ret := ret124) func124 rfl Tryz.ntmps124 rfl ?_ h
 unfold r124
 exact q_ (p_ rfl (s_box (v := .agg [.int .i64 a0_0, .int .i64 a0_1, .int .i64 a0_2]) rfl rfl) (a_ (.bool false) rfl (o_hp fun H1 hH1 => n_ (p_ rfl (s_fieldAddr underlying63 rfl ty3 rfl) (o_bind fun x2 hx2 => p_ rfl (s_load underlying3 rfl rfl (ldI_eq hx2)) (p_ rfl (s_eql rfl rfl) (a_ (.bool (decide (x2 = 0))) rfl (f_nil (f_ret (.tmp rfl (.nil)) rfl)))))))))

/- 71 (*congou/sketch.list).lessen -/
theorem ok71 : FnOk prog 71 := ⟨⟨f71, func71, by kernel_rfl, rfl⟩⟩
theorem s71_l0 {app : App} (happ : AppSim prog app) : ∀ (k_ v1 v2 : Nat) (v3 v4 : Int) (H : Hp), Fin prog f71 ret71 33 (todoAt (bodyOf f71) [0, 1, 0, 0] []) [(0, .ptr v1 v2), (9, .int .i64 v3), (10, .int .i64 v4)] H (r71_l0 app k_ v1 v2 v3 v4 H) := by
 intro k_
 induction k_ with
 | zero => intro _ _ _ _ _; exact f_none
 | succ k_ ih =>
  intro v1 v2 v3 v4 H
  rw [r71_l0]
  refine q_ (p_ rfl (s_lss rfl rfl) (f_nil (f_seq ?_)))
  refine f_if (fun h1 => ?_) (fun h1 => ?_)
  ·refine kT 11 h1 rfl (f_skip (f_seq (f_block (q_ (m_ (.int .i64 v4) rfl (a_ (.int .i64 v4) rfl (f_nil (f_region (m_ (.ptr v1 v2) rfl (p_ rfl (s_nilCheck rfl) (p_ rfl (s_fieldAddr underlying129 rfl ty58 rfl) (o_bind fun x2 hx2 => p_ rfl (s_load underlying58 rfl rfl (ldSl_eq hx2)) ?_))))))))))))
   refine m_ (.int .i64 v4) rfl (o_ck fun g3 => p_ rfl (s_idx underlying58 ty63 rfl rfl g3) (p_ rfl (s_fieldAddr underlying63 rfl ty3 rfl) (o_bind fun x4 hx4 => p_ rfl (s_load underlying3 rfl rfl (ldI_eq hx4)) (p_ rfl (s_sub rfl rfl) (o_ck fun g5 => p_ rfl (s_idx underlying58 ty63 rfl rfl g5) (p_ rfl (s_fieldAddr underlying63 rfl ty3 rfl) (o_bind fun H6 hH6 => p_ rfl (s_store (s := 1) ty3 rfl rfl rfl hH6) (f_nil (f_inBlock (f_region (p_ rfl (s_add rfl rfl) ?_)))))))))))
   exact m_ (.int .i64 (w64 (v4 + 1))) rfl (f_nil (f_inLoop (f_keep [0, 9, 10] (ih v1 v2 v3 (w64 (v4 + 1)) H6))))
  ·refine kF 11 h1 rfl (f_exit rfl (f_region (m_ (.ptr v1 v2) rfl (m_ (.ptr v1 v2) rfl (p_ rfl (s_nilCheck rfl) (p_ rfl (s_fieldAddr underlying129 rfl ty58 rfl) (o_bind fun x7 hx7 => p_ rfl (s_load underlying58 rfl rfl (ldSl_eq hx7)) (o_bind fun p8 hp8 => p_ rfl (s_callF rfl ok123 (sim123 happ hp8)) (p_ rfl (s_nilCheck rfl) (p_ rfl (s_fieldAddr underlying129 rfl ty58 rfl) (o_bind fun H9 hH9 => p_ rfl (s_store (s := 1) ty58 rfl rfl rfl hH9) ?_)))))))))))
   exact f_nil (f_end (.nil) rfl)

theorem sim71 {app : App} (happ : AppSim prog app) {a0b : Nat} {a0o : Nat} {a1 : Int} {H : Hp} {p : Unit × Hp} (h : r71 app a0b a0o a1 H = some p) : CallSim prog 71 [.ptr a0b a0o, .int .i64 a1] H (.tup []) p.2 := by
 refine callSim (fn := f71) (ret := ret71) func71 rfl Tryz.ntmps71 rfl ?_ h
 unfold r71
 exact f_seq (q_ (m_ (.ptr a0b a0o) rfl (p_ rfl (s_nilCheck rfl) (p_ rfl (s_fieldAddr underlying129 rfl ty58 rfl) (o_bind fun x1 hx1 => p_ rfl (s_load underlying58 rfl rfl (ldSl_eq hx1)) (p_ rfl (s_lenS rfl underlying58 rfl) (m_ (.int .i64 0) rfl (f_nil (f_block (f_loop (f_keep [0, 9, 10] (s71_l0 happ FUEL a0b a0o (x1.len : Int) 0 H))))))))))))

/- 125 (*congou/sketch.list).at -/
theorem ok125 : FnOk prog 125 := ⟨⟨f125, func125, by kernel_rfl, rfl⟩⟩
theorem sim125 {app : App} (happ : AppSim prog app) {a0b : Nat} {a0o : Nat} {a1 : Int} {H : Hp} {p : Int × Hp} (h : r125 app a0b a0o a1 H = some p) : CallSim prog 125 [.ptr a0b a0o, .int .i64 a1] H (.int .i64 p.1) p.2 := by
 refine callSim (fn := f125) (ret := ret125) func125 rfl Tryz.ntmps125 rfl ?_ h
 unfold r125
 refine q_ (p_ rfl (s_box1 (v := .int .i64 a1) rfl rfl) (a_ (.int .i64 0) rfl (o_hp fun H1 hH1 => n_ (m_ (.ptr a0b a0o) rfl (p_ rfl (s_nilCheck rfl) (p_ rfl (s_fieldAddr underlying129 rfl ty58 rfl) (o_bind fun x2 hx2 => p_ rfl (s_load underlying58 rfl rfl (ldSl_eq hx2)) (p_ rfl (s_makeFunc rfl rfl) (o_bind fun p3 hp3 => p_ rfl (s_callF rfl ok73 (sim73 happ hp3)) ?_)))))))))
 exact a_ (.int .i64 p3.1) rfl (f_nil (f_ret (.tmp rfl (.nil)) rfl))

/- 297 slices.AppendSeq[[]congou/sketch.Count,congou/sketch.Count] -/
theorem ok297 : FnOk prog 297 := ⟨⟨f297, func297, by kernel_rfl, rfl⟩⟩
theorem sim297 {app : App} (happ : AppSim prog app) {a0 : Sl} {a1 : AV} {H : Hp} {p : Sl × Hp} (h : r297 app a0 a1 H = some p) : CallSim prog 297 [.sl a0, a1] H (.sl p.1) p.2 := by
 refine callSim (fn := f297) (ret := ret297) func297 rfl Tryz.ntmps297 rfl ?_ h
 unfold r297
 refine q_ (p_ rfl (s_box1 (v := .sl a0) rfl rfl) (a_ (.sl ⟨true, 0, 0, 0, 0, 0⟩) rfl (o_hp fun H1 hH1 => f_nil (f_seq (q_ (m_ a1 rfl (f_nil (f_block (f_bind fun p2 hp2 => f_bind fun q3 hq3 => f_rangeX happ rfl rfl (lookup_restrict _ [2]) rfl hp2 hq3 ?_)))))))))
 refine f_if (fun h4 => ?_) (fun h4 => ?_)
 ·exact f_jmp0 h4 (f_inBlock (q_ (o_bind fun x5 hx5 => p_ rfl (s_load underlying58 rfl rfl (ldSl_eq hx5)) (a_ (.sl x5) rfl (f_nil (f_ck fun g6 => f_retD (.tmp rfl (.nil)) rfl (dfrs_of g6)))))))
 ·exact f_none

theorem sim297q2 {app : App} (happ : AppSim prog app) {l_ : Nat} {v1 : Nat} {y0_0 : Int} {y0_1 : Int} {y0_2 : Int} {H : Hp} : FinG prog PostR ⟨13, [], some l_⟩ [.code (siteTab 2).2.1, .beginRound, .code (siteTab 2).2.2] (zipF [7] [.agg [.int .i64 y0_0, .int .i64 y0_1, .int .i64 y0_2]] [(2, .ptr v1 0)]) H (r297q2 app l_ v1 y0_0 y0_1 y0_2 H) := by
 show FinG prog PostR ⟨13, [], some l_⟩ (todoAt (bodyOf f297) [1, 0, 1, 0, 0] []) [(7, .agg [.int .i64 y0_0, .int .i64 y0_1, .int .i64 y0_2]), (2, .ptr v1 0)] H _
 unfold r297q2
 refine f_region (p_ rfl (s_alloc (zs := [.int .i64 0, .int .i64 0, .int .i64 0]) ty63 rfl rfl) (o_bind fun H1 hH1 => p_ rfl (s_stores ty63 rfl rfl rfl rfl hH1 (Nat.le_of_eq (sts_mono hH1).symm)) (f_nil (f_bind fun H2 hH2 => f_beginX rfl hH2 (f_block (f_region (o_bind fun x3 hx3 => p_ rfl (s_load underlying58 rfl rfl (ldSl_eq hx3)) (o_bind fun x4 hx4 => o_bind fun x5 hx5 => o_bind fun x6 hx6 => p_ rfl (s_loads underlying63 rfl ty63 rfl (lds_cons (ldI_eq hx4) (lds_cons (ldI_eq hx5) (lds_cons (ldI_eq hx6) (lds_nil))))) (p_ rfl (s_buildSlice (cs := [.int .i64 x4, .int .i64 x5, .int .i64 x6]) underlying58 ty63 (by decide) (by decide) rfl (by decide) rfl) ?_)))))))))
 exact o_bind fun x7 hx7 => p_ rfl (s_ap rfl rfl underlying58 underlying58 ty63 rfl rfl rfl rfl rfl rfl rfl hx7) (o_bind fun H8 hH8 => p_ rfl (s_store (s := 1) ty58 rfl rfl rfl hH8) (f_nil (f_inBlock (f_rend))))

/- 234 slices.Collect[congou/sketch.Count] -/
theorem ok234 : FnOk prog 234 := ⟨⟨f234, func234, by kernel_rfl, rfl⟩⟩
theorem sim234 {app : App} (happ : AppSim prog app) {a0 : AV} {H : Hp} {p : Sl × Hp} (h : r234 app a0 H = some p) : CallSim prog 234 [a0] H (.sl p.1) p.2 := by
 refine callSim (fn := f234) (ret := ret234) func234 rfl Tryz.ntmps234 rfl ?_ h
 unfold r234
 exact q_ (a_ (.sl ⟨true, 0, 0, 0, 0, 0⟩) rfl (n_ (m_ a0 rfl (o_bind fun p1 hp1 => p_ rfl (s_callF rfl ok297 (sim297 happ hp1)) (a_ (.sl p1.1) rfl (f_nil (f_ret (.tmp rfl (.nil)) rfl)))))))

/- 239 math/bits.Len64 -/
theorem ok239 : FnOk prog 239 := ⟨⟨f239, func239, by kernel_rfl, rfl⟩⟩
theorem s239_j0 (v1 v2 : Int) (H : Hp) : Fin prog f239 ret239 25 (todoAt (bodyOf f239) [1, 1, 1, 1] []) [(0, .int .u64 v1), (2, .int .i64 v2)] H (r239_j0 v1 v2 H) := by
 unfold r239_j0
 exact q_ (m_ (.int .i64 v2) rfl (m_ (.int .u64 v1) rfl (p_ rfl (s_convInt underlying245 underlying5 rfl) (o_ck fun g1 => p_ rfl (s_indexStr underlying9 rfl rfl g1) (p_ rfl (s_convInt underlying5 underlying3 rfl) (p_ rfl (s_add rfl rfl) (a_ (.int .i64 (w64 (v2 + (w64 (bt (strC f239 [1, 1, 1, 1, 0] 3 0) (IntKind.wrap .u8 (v1))))))) rfl (f_nil (f_ret (.tmp rfl (.nil)) rfl)))))))))

theorem s239_j1 (v1 v2 : Int) (H : Hp) : Fin prog f239 ret239 25 (todoAt (bodyOf f239) [1, 1, 1] []) [(0, .int .u64 v1), (2, .int .i64 v2)] H (r239_j1 v1 v2 H) := by
 unfold r239_j1
 refine f_seq (q_ (m_ (.int .u64 v1) rfl (p_ rfl (s_geq rfl rfl) (f_nil ?_))))
 refine f_if (fun h1 => ?_) (fun h1 => ?_)
 ·exact kT 14 h1 rfl (q_ (m_ (.int .u64 v1) rfl (p_ rfl (s_shr rfl rfl (by decide)) (a_ (.int .u64 (shrOf .u64 v1 8)) rfl (f_nil (f_region (m_ (.int .i64 v2) rfl (p_ rfl (s_add rfl rfl) (a_ (.int .i64 (w64 (v2 + 8))) rfl (f_nil (f_keep [0, 2] (s239_j0 (shrOf .u64 v1 8) (w64 (v2 + 8)) H))))))))))))
 ·exact kF 14 h1 rfl (f_skip (f_keep [0, 2] (s239_j0 v1 v2 H)))

theorem s239_j2 (v1 v2 : Int) (H : Hp) : Fin prog f239 ret239 25 (todoAt (bodyOf f239) [1, 1] []) [(0, .int .u64 v1), (2, .int .i64 v2)] H (r239_j2 v1 v2 H) := by
 unfold r239_j2
 refine f_seq (q_ (m_ (.int .u64 v1) rfl (p_ rfl (s_geq rfl rfl) (f_nil ?_))))
 refine f_if (fun h1 => ?_) (fun h1 => ?_)
 ·exact kT 8 h1 rfl (q_ (m_ (.int .u64 v1) rfl (p_ rfl (s_shr rfl rfl (by decide)) (a_ (.int .u64 (shrOf .u64 v1 16)) rfl (f_nil (f_region (m_ (.int .i64 v2) rfl (p_ rfl (s_add rfl rfl) (a_ (.int .i64 (w64 (v2 + 16))) rfl (f_nil (f_keep [0, 2] (s239_j1 (shrOf .u64 v1 16) (w64 (v2 + 16)) H))))))))))))
 ·exact kF 8 h1 rfl (f_skip (f_keep [0, 2] (s239_j1 v1 v2 H)))

theorem sim239 {a0 : Int} {H : Hp} {p : Int × Hp} (h : r239 a0 H = some p) : CallSim prog 239 [.int .u64 a0] H (.int .i64 p.1) p.2 := by
 refine callSim (fn := f239) (ret := ret239) func239 rfl Tryz.ntmps239 rfl ?_ h
 unfold r239
 refine q_ (a_ (.int .i64 0) rfl (f_nil (f_seq (q_ (m_ (.int .u64 a0) rfl (p_ rfl (s_geq rfl rfl) (f_nil ?_)))))))
 refine f_if (fun h1 => ?_) (fun h1 => ?_)
 ·exact kT 4 h1 rfl (q_ (m_ (.int .u64 a0) rfl (p_ rfl (s_shr rfl rfl (by decide)) (a_ (.int .u64 (shrOf .u64 a0 32)) rfl (f_nil (f_region (a_ (.int .i64 32) rfl (f_nil (f_keep [0, 2] (s239_j2 (shrOf .u64 a0 32) 32 H))))))))))
 ·exact kF 4 h1 rfl (f_skip (f_keep [0, 2] (s239_j2 a0 0 H)))

/- 330 math/bits.Len32 -/
theorem ok330 : FnOk prog 330 := ⟨⟨f330, func330, by kernel_rfl, rfl⟩⟩
theorem s330_j0 (v1 v2 : Int) (H : Hp) : Fin prog f330 ret330 19 (todoAt (bodyOf f330) [1, 1, 1] []) [(0, .int .u32 v1), (2, .int .i64 v2)] H (r330_j0 v1 v2 H) := by
 unfold r330_j0
 exact q_ (m_ (.int .i64 v2) rfl (m_ (.int .u32 v1) rfl (p_ rfl (s_convInt underlying306 underlying5 rfl) (o_ck fun g1 => p_ rfl (s_indexStr underlying9 rfl rfl g1) (p_ rfl (s_convInt underlying5 underlying3 rfl) (p_ rfl (s_add rfl rfl) (a_ (.int .i64 (w64 (v2 + (w64 (bt (strC f330 [1, 1, 1, 0] 3 0) (IntKind.wrap .u8 (v1))))))) rfl (f_nil (f_ret (.tmp rfl (.nil)) rfl)))))))))

theorem s330_j1 (v1 v2 : Int) (H : Hp) : Fin prog f330 ret330 19 (todoAt (bodyOf f330) [1, 1] []) [(0, .int .u32 v1), (2, .int .i64 v2)] H (r330_j1 v1 v2 H) := by
 unfold r330_j1
 refine f_seq (q_ (m_ (.int .u32 v1) rfl (p_ rfl (s_geq rfl rfl) (f_nil ?_))))
 refine f_if (fun h1 => ?_) (fun h1 => ?_)
 ·exact kT 8 h1 rfl (q_ (m_ (.int .u32 v1) rfl (p_ rfl (s_shr rfl rfl (by decide)) (a_ (.int .u32 (shrOf .u32 v1 8)) rfl (f_nil (f_region (m_ (.int .i64 v2) rfl (p_ rfl (s_add rfl rfl) (a_ (.int .i64 (w64 (v2 + 8))) rfl (f_nil (f_keep [0, 2] (s330_j0 (shrOf .u32 v1 8) (w64 (v2 + 8)) H))))))))))))
 ·exact kF 8 h1 rfl (f_skip (f_keep [0, 2] (s330_j0 v1 v2 H)))

theorem sim330 {a0 : Int} {H : Hp} {p : Int × Hp} (h : r330 a0 H = some p) : CallSim prog 330 [.int .u32 a0] H (.int .i64 p.1) p.2 := by
 refine callSim (fn := f330) (ret := ret330) func330 rfl Tryz.ntmps330 rfl ?_ h
 unfold r330
 refine q_ (a_ (.int .i64 0) rfl (f_nil (f_seq (q_ (m_ (.int .u32 a0) rfl (p_ rfl (s_geq rfl rfl) (f_nil ?_)))))))
 refine f_if (fun h1 => ?_) (fun h1 => ?_)
 ·exact kT 4 h1 rfl (q_ (m_ (.int .u32 a0) rfl (p_ rfl (s_shr rfl rfl (by decide)) (a_ (.int .u32 (shrOf .u32 a0 16)) rfl (f_nil (f_region (a_ (.int .i64 16) rfl (f_nil (f_keep [0, 2] (s330_j1 (shrOf .u32 a0 16) 16 H))))))))))
 ·exact kF 4 h1 rfl (f_skip (f_keep [0, 2] (s330_j1 a0 0 H)))

/- 296 math/bits.Len -/
theorem ok296 : FnOk prog 296 := ⟨⟨f296, func296, by kernel_rfl, rfl⟩⟩
theorem sim296 {a0 : Int} {H : Hp} {p : Int × Hp} (h : r296 a0 H = some p) : CallSim prog 296 [.int .u64 a0] H (.int .i64 p.1) p.2 := by
 refine callSim (fn := f296) (ret := ret296) func296 rfl Tryz.ntmps296 rfl ?_ h
 unfold r296
 exact q_ (a_ (.int .i64 0) rfl (f_nil (f_seq (f_condF rfl (f_skip (q_ (m_ (.int .u64 a0) rfl (o_bind fun p1 hp1 => p_ rfl (s_callF rfl ok239 (sim239 hp1)) (a_ (.int .i64 p1.1) rfl (f_nil (f_ret (.tmp rfl (.nil)) rfl)))))))))))

/- 331 slices.insertionSortCmpFunc[congou/sketch.Count] -/
theorem ok331 : FnOk prog 331 := ⟨⟨f331, func331, by kernel_rfl, rfl⟩⟩
theorem s331_j2 {app : App} (happ : AppSim prog app) (kt0 : Sl → Int → Int → AV → Int → Hp → Option (Unit × Hp)) (hkt0 : ∀ (v1 : Sl) (v2 v3 : Int) (v4 : AV) (v5 : Int) (H : Hp), Fin prog f331 ret331 53 (todoAt (bodyOf f331) [1, 0, 0] []) [(0, .sl v1), (1, .int .i64 v2), (2, .int .i64 v3), (3, v4), (8, .int .i64 v5)] H (kt0 v1 v2 v3 v4 v5 H)) (kt1 : Sl → Int → Int → AV → Int → Int → Hp → Option (Unit × Hp)) (hkt1 : ∀ (v1 : Sl) (v2 v3 : Int) (v4 : AV) (v5 v6 : Int) (H : Hp), Fin prog f331 ret331 53 (todoAt (bodyOf f331) [1, 0, 0, 1, 0, 0, 1, 0, 0] []) [(0, .sl v1), (1, .int .i64 v2), (2, .int .i64 v3), (3, v4), (8, .int .i64 v5), (9, .int .i64 v6)] H (kt1 v1 v2 v3 v4 v5 v6 H)) (v1 : Sl) (v2 v3 : Int) (v4 : AV) (v5 v6 : Int) (v7 : Bool) (H : Hp) : Fin prog f331 ret331 53 (todoAt (bodyOf f331) [1, 0, 0, 1, 0, 0, 1, 0, 0, 0, 1] []) [(0, .sl v1), (1, .int .i64 v2), (2, .int .i64 v3), (3, v4), (8, .int .i64 v5), (9, .int .i64 v6), (34, .bool v7)] H (r331_j2 app kt0 kt1 v1 v2 v3 v4 v5 v6 v7 H) := by
 unfold r331_j2
 refine f_if (fun h1 => ?_) (fun h1 => ?_)
 ·refine bT 34 h1 rfl (f_skip (f_seq (f_block (f_ck fun g2 => f_bind fun x3 hx3 => f_bind fun x4 hx4 => f_bind fun x5 hx5 => f_ck fun g6 => f_bind fun x7 hx7 => f_bind fun x8 hx8 => f_bind fun x9 hx9 => f_ck fun g10 => f_bind fun H11 hH11 => f_ck fun g12 => ?_))))
  exact f_bind fun H13 hH13 => f_draw (Φ := fun _ => True) (lim := 1000000) [0, 0, 0, 0, 0, 0, 0, 0, 0, 1, 0, 0, 0, 1, 0, 2, 0, 2] (tm (.sl v1) rfl (tm (.int .i64 v6) rfl (tm (.sl v1) rfl (tm (.int .i64 v6) rfl (t_ rfl (fun _ => s_sub rfl rfl) (tm (.sl v1) rfl (tm (.int .i64 v6) rfl (t_ rfl (fun _ => s_sub rfl rfl) (t_ rfl (fun _ => s_idx underlying58 ty63 rfl rfl g2) (tr rfl (s_loads underlying63 rfl ty63 rfl (lds_cons (ldI_eq hx3) (lds_cons (ldI_eq hx4) (lds_cons (ldI_eq hx5) (lds_nil))))) (tm (.sl v1) rfl (tm (.int .i64 v6) rfl (t_ rfl (fun _ => s_idx underlying58 ty63 rfl rfl g6) (tr rfl (s_loads underlying63 rfl ty63 rfl (lds_cons (ldI_eq hx7) (lds_cons (ldI_eq hx8) (lds_cons (ldI_eq hx9) (lds_nil))))) (t_ rfl (fun _ => s_idx underlying58 ty63 rfl rfl g10) (Trc.eff rfl rfl rfl (fun _ => trivial) (s_stores ty63 rfl rfl rfl rfl hH11 (Nat.le_of_eq (sts_mono hH11).symm)) (t_ rfl (fun _ => s_idx underlying58 ty63 rfl rfl g12) (Trc.eff rfl rfl rfl (fun _ => trivial) (s_stores ty63 rfl rfl rfl rfl hH13 (Nat.le_of_eq (sts_mono hH13).symm)) (Trc.nil (fun _ => trivial)))))))))))))))))))) rfl (by decide +kernel) mixed (f_inBlock (f_region (m_ (.int .i64 v6) rfl (p_ rfl (s_sub rfl rfl) (a_ (.int .i64 (w64 (v6 - 1))) rfl (f_nil (f_inLoop (f_keep [0, 1, 2, 3, 8, 9] (hkt1 v1 v2 v3 v4 v5 (w64 (v6 - 1)) H13)))))))))
 ·exact bF 34 h1 rfl (f_exit rfl (f_inBlock (f_region (m_ (.int .i64 v5) rfl (p_ rfl (s_add rfl rfl) (a_ (.int .i64 (w64 (v5 + 1))) rfl (f_nil (f_inLoop (f_keep [0, 1, 2, 3, 8] (hkt0 v1 v2 v3 v4 (w64 (v5 + 1)) H))))))))))

theorem s331_l1 {app : App} (happ : AppSim prog app) (kt0 : Sl → Int → Int → AV → Int → Hp → Option (Unit × Hp)) (hkt0 : ∀ (v1 : Sl) (v2 v3 : Int) (v4 : AV) (v5 : Int) (H : Hp), Fin prog f331 ret331 53 (todoAt (bodyOf f331) [1, 0, 0] []) [(0, .sl v1), (1, .int .i64 v2), (2, .int .i64 v3), (3, v4), (8, .int .i64 v5)] H (kt0 v1 v2 v3 v4 v5 H)) : ∀ (k_ : Nat) (v1 : Sl) (v2 v3 : Int) (v4 : AV) (v5 v6 : Int) (H : Hp), Fin prog f331 ret331 53 (todoAt (bodyOf f331) [1, 0, 0, 1, 0, 0, 1, 0, 0] []) [(0, .sl v1), (1, .int .i64 v2), (2, .int .i64 v3), (3, v4), (8, .int .i64 v5), (9, .int .i64 v6)] H (r331_l1 app kt0 k_ v1 v2 v3 v4 v5 v6 H) := by
 intro k_
 induction k_ with
 | zero => intro _ _ _ _ _ _ _; exact f_none
 | succ k_ ih =>
  intro v1 v2 v3 v4 v5 v6 H
  rw [r331_l1]
  refine f_seq (f_seq ?_)
  refine f_if (fun h1 => ?_) (fun h1 => ?_)
  ·exact f_ck fun g2 => f_bind fun x3 hx3 => f_bind fun x4 hx4 => f_bind fun x5 hx5 => f_ck fun g6 => f_bind fun x7 hx7 => f_bind fun x8 hx8 => f_bind fun x9 hx9 => f_bind fun p10 hp10 => f_bind fun x11 hx11 => f_draw (Φ := fun _ => True) (lim := 1000000) [0, 0, 0, 0, 0, 0, 0, 0, 1, 0, 0, 0, 0, 1, 2, 0, 0] (tm (.int .i64 v6) rfl (tm (.int .i64 v2) rfl (t_ rfl (fun _ => s_gtr rfl rfl) (tm (.bool (decide (v2 < v6))) rfl (Trc.know 21 rfl (dec_true h1) (tm v4 rfl (tm (.sl v1) rfl (tm (.int .i64 v6) rfl (t_ rfl (fun _ => s_idx underlying58 ty63 rfl rfl g2) (tr rfl (s_loads underlying63 rfl ty63 rfl (lds_cons (ldI_eq hx3) (lds_cons (ldI_eq hx4) (lds_cons (ldI_eq hx5) (lds_nil))))) (tm (.sl v1) rfl (tm (.int .i64 v6) rfl (t_ rfl (fun _ => s_sub rfl rfl) (t_ rfl (fun _ => s_idx underlying58 ty63 rfl rfl g6) (tr rfl (s_loads underlying63 rfl ty63 rfl (lds_cons (ldI_eq hx7) (lds_cons (ldI_eq hx8) (lds_cons (ldI_eq hx9) (lds_nil))))) (Trc.eff rfl rfl rfl (fun _ => trivial) (s_callv happ rfl rfl hp10) (Trc.know 32 rfl (asI_eq hx11) (t_ rfl (fun _ => s_lss rfl rfl) (t_ rfl (fun _ => s_pickT (v := .bool (decide (x11 < 0))) rfl rfl) (Trc.nil (fun _ => trivial))))))))))))))))))))) rfl (by decide +kernel) mixed (f_keep [0, 1, 2, 3, 8, 9, 34] (s331_j2 happ _ hkt0 _ ih v1 v2 v3 v4 v5 v6 (decide (x11 < 0)) p10.2))
  ·exact f_draw (Φ := fun _ => True) (lim := 1000000) [0, 0, 0, 0, 0, 0, 0, 0, 0, 0, 0, 0, 0, 0, 0, 0, 0] (tm (.int .i64 v6) rfl (tm (.int .i64 v2) rfl (t_ rfl (fun _ => s_gtr rfl rfl) (tm (.bool (decide (v2 < v6))) rfl (Trc.know 21 rfl (dec_false h1) (Trc.no rfl rfl rfl (Trc.no rfl rfl rfl (Trc.no rfl rfl rfl (Trc.no rfl rfl rfl (Trc.no rfl rfl rfl (Trc.no rfl rfl rfl (Trc.no rfl rfl rfl (Trc.no rfl rfl rfl (Trc.no rfl rfl rfl (Trc.no rfl rfl rfl (Trc.no rfl rfl rfl (Trc.no rfl rfl rfl (t_ rfl (fun _ => s_pickF (v := .bool false) rfl rfl) (Trc.nil (fun _ => trivial)))))))))))))))))))) rfl (by decide +kernel) mixed (f_keep [0, 1, 2, 3, 8, 9, 34] (s331_j2 happ _ hkt0 _ ih v1 v2 v3 v4 v5 v6 false H))

theorem s331_l0 {app : App} (happ : AppSim prog app) : ∀ (k_ : Nat) (v1 : Sl) (v2 v3 : Int) (v4 : AV) (v5 : Int) (H : Hp), Fin prog f331 ret331 53 (todoAt (bodyOf f331) [1, 0, 0] []) [(0, .sl v1), (1, .int .i64 v2), (2, .int .i64 v3), (3, v4), (8, .int .i64 v5)] H (r331_l0 app k_ v1 v2 v3 v4 v5 H) := by
 intro k_
 induction k_ with
 | zero => intro _ _ _ _ _ _; exact f_none
 | succ k_ ih =>
  intro v1 v2 v3 v4 v5 H
  rw [r331_l0]
  refine f_seq (q_ (m_ (.int .i64 v5) rfl (m_ (.int .i64 v3) rfl (p_ rfl (s_lss rfl rfl) (f_nil ?_)))))
  refine f_if (fun h1 => ?_) (fun h1 => ?_)
  ·exact kT 14 h1 rfl (f_skip (f_seq (f_block (q_ (m_ (.int .i64 v5) rfl (a_ (.int .i64 v5) rfl (f_nil (f_block (f_loop (f_keep [0, 1, 2, 3, 8, 9] (s331_l1 happ _ ih FUEL v1 v2 v3 v4 v5 v5 H)))))))))))
  ·exact kF 14 h1 rfl (f_exit rfl (f_end (.nil) rfl))

theorem sim331 {app : App} (happ : AppSim prog app) {a0 : Sl} {a1 : Int} {a2 : Int} {a3 : AV} {H : Hp} {p : Unit × Hp} (h : r331 app a0 a1 a2 a3 H = some p) : CallSim prog 331 [.sl a0, .int .i64 a1, .int .i64 a2, a3] H (.tup []) p.2 := by
 refine callSim (fn := f331) (ret := ret331) func331 rfl Tryz.ntmps331 rfl ?_ h
 unfold r331
 exact q_ (m_ (.int .i64 a1) rfl (p_ rfl (s_add rfl rfl) (a_ (.int .i64 (w64 (a1 + 1))) rfl (f_nil (f_block (f_loop (f_keep [0, 1, 2, 3, 8] (s331_l0 happ FUEL a0 a1 a2 a3 (w64 (a1 + 1)) H))))))))

/- 354 slices.siftDownCmpFunc[congou/sketch.Count] -/
theorem ok354 : FnOk prog 354 := ⟨⟨f354, func354, by kernel_rfl, rfl⟩⟩
theorem s354_j1 {app : App} (happ : AppSim prog app) (kt0 : Sl → Int → Int → AV → Int → Hp → Option (Unit × Hp)) (hkt0 : ∀ (v1 : Sl) (v2 v3 : Int) (v4 : AV) (v5 : Int) (H : Hp), Fin prog f354 ret354 82 (todoAt (bodyOf f354) [1, 0, 0] []) [(0, .sl v1), (2, .int .i64 v2), (3, .int .i64 v3), (4, v4), (10, .int .i64 v5)] H (kt0 v1 v2 v3 v4 v5 H)) (v1 : Sl) (v2 v3 : Int) (v4 : AV) (v5 v6 : Int) (H : Hp) : Fin prog f354 ret354 82 (todoAt (bodyOf f354) [1, 0, 0, 0, 1, 1, 1] []) [(0, .sl v1), (2, .int .i64 v2), (3, .int .i64 v3), (4, v4), (10, .int .i64 v5), (11, .int .i64 v6)] H (r354_j1 app kt0 v1 v2 v3 v4 v5 v6 H) := by
 unfold r354_j1
 refine f_seq (f_seq (f_ck fun g1 => f_bind fun x2 hx2 => f_bind fun x3 hx3 => f_bind fun x4 hx4 => f_ck fun g5 => f_bind fun x6 hx6 => f_bind fun x7 hx7 => f_bind fun x8 hx8 => f_bind fun p9 hp9 => f_bind fun x10 hx10 => f_draw (Φ := fun _ => True) (lim := 1000000) [0, 0, 0, 0, 0, 0, 1, 0, 0, 0, 0, 0, 1, 2, 0, 0] (tm v4 rfl (tm (.sl v1) rfl (tm (.int .i64 v3) rfl (tm (.int .i64 v5) rfl (t_ rfl (fun _ => s_add rfl rfl) (t_ rfl (fun _ => s_idx underlying58 ty63 rfl rfl g1) (tr rfl (s_loads underlying63 rfl ty63 rfl (lds_cons (ldI_eq hx2) (lds_cons (ldI_eq hx3) (lds_cons (ldI_eq hx4) (lds_nil))))) (tm (.sl v1) rfl (tm (.int .i64 v3) rfl (tm (.int .i64 v6) rfl (t_ rfl (fun _ => s_add rfl rfl) (t_ rfl (fun _ => s_idx underlying58 ty63 rfl rfl g5) (tr rfl (s_loads underlying63 rfl ty63 rfl (lds_cons (ldI_eq hx6) (lds_cons (ldI_eq hx7) (lds_cons (ldI_eq hx8) (lds_nil))))) (Trc.eff rfl rfl rfl (fun _ => trivial) (s_callv happ rfl rfl hp9) (Trc.know 56 rfl (asI_eq hx10) (t_ rfl (fun _ => s_lss rfl rfl) (t_ rfl (fun _ => s_not rfl) (Trc.nil (fun _ => trivial))))))))))))))))))) rfl (by decide +kernel) mixed ?_))
 refine f_if (fun h11 => ?_) (fun h11 => ?_)
 ·refine f_know 58 rfl (dec_notT h11) (f_condF rfl (f_skip (f_seq (f_ck fun g12 => f_bind fun x13 hx13 => f_bind fun x14 hx14 => f_bind fun x15 hx15 => f_ck fun g16 => f_bind fun x17 hx17 => f_bind fun x18 hx18 => f_bind fun x19 hx19 => f_ck fun g20 => f_bind fun H21 hH21 => f_ck fun g22 => f_bind fun H23 hH23 => ?_))))
  exact f_draw (Φ := fun _ => True) (lim := 1000000) [0, 0, 0, 0, 0, 0, 0, 0, 0, 0, 0, 0, 0, 1, 0, 0, 0, 0, 0, 1, 0, 2, 0, 2] (tm (.sl v1) rfl (tm (.int .i64 v3) rfl (tm (.int .i64 v5) rfl (t_ rfl (fun _ => s_add rfl rfl) (tm (.sl v1) rfl (tm (.int .i64 v3) rfl (tm (.int .i64 v6) rfl (t_ rfl (fun _ => s_add rfl rfl) (tm (.sl v1) rfl (tm (.int .i64 v3) rfl (tm (.int .i64 v6) rfl (t_ rfl (fun _ => s_add rfl rfl) (t_ rfl (fun _ => s_idx underlying58 ty63 rfl rfl g12) (tr rfl (s_loads underlying63 rfl ty63 rfl (lds_cons (ldI_eq hx13) (lds_cons (ldI_eq hx14) (lds_cons (ldI_eq hx15) (lds_nil))))) (tm (.sl v1) rfl (tm (.int .i64 v3) rfl (tm (.int .i64 v5) rfl (t_ rfl (fun _ => s_add rfl rfl) (t_ rfl (fun _ => s_idx underlying58 ty63 rfl rfl g16) (tr rfl (s_loads underlying63 rfl ty63 rfl (lds_cons (ldI_eq hx17) (lds_cons (ldI_eq hx18) (lds_cons (ldI_eq hx19) (lds_nil))))) (t_ rfl (fun _ => s_idx underlying58 ty63 rfl rfl g20) (Trc.eff rfl rfl rfl (fun _ => trivial) (s_stores ty63 rfl rfl rfl rfl hH21 (Nat.le_of_eq (sts_mono hH21).symm)) (t_ rfl (fun _ => s_idx underlying58 ty63 rfl rfl g22) (Trc.eff rfl rfl rfl (fun _ => trivial) (s_stores ty63 rfl rfl rfl rfl hH23 (Nat.le_of_eq (sts_mono hH23).symm)) (Trc.nil (fun _ => trivial)))))))))))))))))))))))))) rfl (by decide +kernel) mixed (f_region (m_ (.int .i64 v6) rfl (a_ (.int .i64 v6) rfl (f_nil (f_inBlock (f_inLoop (f_keep [0, 2, 3, 4, 10] (hkt0 v1 v2 v3 v4 v6 H23))))))))
 ·exact f_know 58 rfl (dec_notF h11) (f_condT rfl (f_ret (.nil) rfl))

theorem s354_j2 {app : App} (happ : AppSim prog app) (kt0 : Sl → Int → Int → AV → Int → Hp → Option (Unit × Hp)) (hkt0 : ∀ (v1 : Sl) (v2 v3 : Int) (v4 : AV) (v5 : Int) (H : Hp), Fin prog f354 ret354 82 (todoAt (bodyOf f354) [1, 0, 0] []) [(0, .sl v1), (2, .int .i64 v2), (3, .int .i64 v3), (4, v4), (10, .int .i64 v5)] H (kt0 v1 v2 v3 v4 v5 H)) (v1 : Sl) (v2 v3 : Int) (v4 : AV) (v5 v6 : Int) (v7 : Bool) (H : Hp) : Fin prog f354 ret354 82 (todoAt (bodyOf f354) [1, 0, 0, 0, 1, 1, 0, 1] []) [(0, .sl v1), (2, .int .i64 v2), (3, .int .i64 v3), (4, v4), (10, .int .i64 v5), (11, .int .i64 v6), (40, .bool v7)] H (r354_j2 app kt0 v1 v2 v3 v4 v5 v6 v7 H) := by
 unfold r354_j2
 refine f_if (fun h1 => ?_) (fun h1 => ?_)
 ·exact bT 40 h1 rfl (f_region (m_ (.int .i64 v6) rfl (p_ rfl (s_add rfl rfl) (a_ (.int .i64 (w64 (v6 + 1))) rfl (f_nil (f_keep [0, 2, 3, 4, 10, 11] (s354_j1 happ _ hkt0 v1 v2 v3 v4 v5 (w64 (v6 + 1)) H)))))))
 ·exact bF 40 h1 rfl (f_skip (f_keep [0, 2, 3, 4, 10, 11] (s354_j1 happ _ hkt0 v1 v2 v3 v4 v5 v6 H)))

theorem s354_l0 {app : App} (happ : AppSim prog app) : ∀ (k_ : Nat) (v1 : Sl) (v2 v3 : Int) (v4 : AV) (v5 : Int) (H : Hp), Fin prog f354 ret354 82 (todoAt (bodyOf f354) [1, 0, 0] []) [(0, .sl v1), (2, .int .i64 v2), (3, .int .i64 v3), (4, v4), (10, .int .i64 v5)] H (r354_l0 app k_ v1 v2 v3 v4 v5 H) := by
 intro k_
 induction k_ with
 | zero => intro _ _ _ _ _ _; exact f_none
 | succ k_ ih =>
  intro v1 v2 v3 v4 v5 H
  rw [r354_l0]
  refine f_block (q_ (m_ (.int .i64 v5) rfl (p_ rfl (s_mul rfl rfl) (p_ rfl (s_add rfl rfl) (a_ (.int .i64 (w64 ((w64 (2 * v5)) + 1))) rfl (f_nil (f_seq (q_ (m_ (.int .i64 (w64 ((w64 (2 * v5)) + 1))) rfl (m_ (.int .i64 v2) rfl (p_ rfl (s_geq rfl rfl) (f_nil ?_))))))))))))
  refine f_if (fun h1 => ?_) (fun h1 => ?_)
  ·exact kT 18 h1 rfl (f_exit rfl (f_end (.nil) rfl))
  ·refine kF 18 h1 rfl (f_skip (f_seq (f_seq ?_)))
   refine f_if (fun h2 => ?_) (fun h2 => ?_)
   ·exact f_ck fun g3 => f_bind fun x4 hx4 => f_bind fun x5 hx5 => f_bind fun x6 hx6 => f_ck fun g7 => f_bind fun x8 hx8 => f_bind fun x9 hx9 => f_bind fun x10 hx10 => f_bind fun p11 hp11 => f_bind fun x12 hx12 => f_draw (Φ := fun _ => True) (lim := 1000000) [0, 0, 0, 0, 0, 0, 0, 0, 0, 0, 0, 1, 0, 0, 0, 0, 0, 0, 1, 2, 0, 0] (tm (.int .i64 (w64 ((w64 (2 * v5)) + 1))) rfl (t_ rfl (fun _ => s_add rfl rfl) (tm (.int .i64 v2) rfl (t_ rfl (fun _ => s_lss rfl rfl) (tm (.bool (decide ((w64 ((w64 ((w64 (2 * v5)) + 1)) + 1)) < v2))) rfl (Trc.know 23 rfl (dec_true h2) (tm v4 rfl (tm (.sl v1) rfl (tm (.int .i64 v3) rfl (tm (.int .i64 (w64 ((w64 (2 * v5)) + 1))) rfl (t_ rfl (fun _ => s_add rfl rfl) (t_ rfl (fun _ => s_idx underlying58 ty63 rfl rfl g3) (tr rfl (s_loads underlying63 rfl ty63 rfl (lds_cons (ldI_eq hx4) (lds_cons (ldI_eq hx5) (lds_cons (ldI_eq hx6) (lds_nil))))) (tm (.sl v1) rfl (tm (.int .i64 v3) rfl (tm (.int .i64 (w64 ((w64 (2 * v5)) + 1))) rfl (t_ rfl (fun _ => s_add rfl rfl) (t_ rfl (fun _ => s_add rfl rfl) (t_ rfl (fun _ => s_idx underlying58 ty63 rfl rfl g7) (tr rfl (s_loads underlying63 rfl ty63 rfl (lds_cons (ldI_eq hx8) (lds_cons (ldI_eq hx9) (lds_cons (ldI_eq hx10) (lds_nil))))) (Trc.eff rfl rfl rfl (fun _ => trivial) (s_callv happ rfl rfl hp11) (Trc.know 38 rfl (asI_eq hx12) (t_ rfl (fun _ => s_lss rfl rfl) (t_ rfl (fun _ => s_pickT (v := .bool (decide (x12 < 0))) rfl rfl) (Trc.nil (fun _ => trivial)))))))))))))))))))))))))) rfl (by decide +kernel) mixed (f_keep [0, 2, 3, 4, 10, 11, 40] (s354_j2 happ _ ih v1 v2 v3 v4 v5 (w64 ((w64 (2 * v5)) + 1)) (decide (x12 < 0)) p11.2))
   ·exact f_draw (Φ := fun _ => True) (lim := 1000000) [0, 0, 0, 0, 0, 0, 0, 0, 0, 0, 0, 0, 0, 0, 0, 0, 0, 0, 0, 0, 0, 0] (tm (.int .i64 (w64 ((w64 (2 * v5)) + 1))) rfl (t_ rfl (fun _ => s_add rfl rfl) (tm (.int .i64 v2) rfl (t_ rfl (fun _ => s_lss rfl rfl) (tm (.bool (decide ((w64 ((w64 ((w64 (2 * v5)) + 1)) + 1)) < v2))) rfl (Trc.know 23 rfl (dec_false h2) (Trc.no rfl rfl rfl (Trc.no rfl rfl rfl (Trc.no rfl rfl rfl (Trc.no rfl rfl rfl (Trc.no rfl rfl rfl (Trc.no rfl rfl rfl (Trc.no rfl rfl rfl (Trc.no rfl rfl rfl (Trc.no rfl rfl rfl (Trc.no rfl rfl rfl (Trc.no rfl rfl rfl (Trc.no rfl rfl rfl (Trc.no rfl rfl rfl (Trc.no rfl rfl rfl (Trc.no rfl rfl rfl (Trc.no rfl rfl rfl (t_ rfl (fun _ => s_pickF (v := .bool false) rfl rfl) (Trc.nil (fun _ => trivial))))))))))))))))))))))))) rfl (by decide +kernel) mixed (f_keep [0, 2, 3, 4, 10, 11, 40] (s354_j2 happ _ ih v1 v2 v3 v4 v5 (w64 ((w64 (2 * v5)) + 1)) false H))

theorem sim354 {app : App} (happ : AppSim prog app) {a0 : Sl} {a1 : Int} {a2 : Int} {a3 : Int} {a4 : AV} {H : Hp} {p : Unit × Hp} (h : r354 app a0 a1 a2 a3 a4 H = some p) : CallSim prog 354 [.sl a0, .int .i64 a1, .int .i64 a2, .int .i64 a3, a4] H (.tup []) p.2 := by
 refine callSim (fn := f354) (ret := ret354) func354 rfl Tryz.ntmps354 rfl ?_ h
 unfold r354
 exact q_ (m_ (.int .i64 a1) rfl (a_ (.int .i64 a1) rfl (f_nil (f_block (f_loop (f_keep [0, 2, 3, 4, 10] (s354_l0 happ FUEL a0 a2 a3 a4 a1 H)))))))

/- 332 slices.heapSortCmpFunc[congou/sketch.Count] -/
theorem ok332 : FnOk prog 332 := ⟨⟨f332, func332, by kernel_rfl, rfl⟩⟩
theorem s332_l1 {app : App} (happ : AppSim prog app) : ∀ (k_ : Nat) (v1 : Sl) (v2 : AV) (v3 v4 v5 : Int) (H : Hp), Fin prog f332 ret332 60 (todoAt (bodyOf f332) [1, 1, 1, 1, 1, 0, 0] []) [(0, .sl v1), (3, v2), (8, .int .i64 v3), (9, .int .i64 v4), (12, .int .i64 v5)] H (r332_l1 app k_ v1 v2 v3 v4 v5 H) := by
 intro k_
 induction k_ with
 | zero => intro _ _ _ _ _ _; exact f_none
 | succ k_ ih =>
  intro v1 v2 v3 v4 v5 H
  rw [r332_l1]
  refine f_seq (q_ (m_ (.int .i64 v5) rfl (p_ rfl (s_geq rfl rfl) (f_nil ?_))))
  refine f_if (fun h1 => ?_) (fun h1 => ?_)
  ·refine kT 33 h1 rfl (f_skip (f_seq (f_block (f_seq (f_ck fun g2 => f_bind fun x3 hx3 => f_bind fun x4 hx4 => f_bind fun x5 hx5 => f_ck fun g6 => f_bind fun x7 hx7 => f_bind fun x8 hx8 => f_bind fun x9 hx9 => f_ck fun g10 => f_bind fun H11 hH11 => ?_)))))
   refine f_ck fun g12 => f_bind fun H13 hH13 => f_draw (Φ := fun _ => True) (lim := 1000000) [0, 0, 0, 0, 0, 0, 0, 0, 0, 0, 0, 1, 0, 0, 0, 1, 0, 2, 0, 2] (tm (.sl v1) rfl (tm (.int .i64 v3) rfl (tm (.sl v1) rfl (tm (.int .i64 v3) rfl (tm (.int .i64 v5) rfl (t_ rfl (fun _ => s_add rfl rfl) (tm (.sl v1) rfl (tm (.int .i64 v3) rfl (tm (.int .i64 v5) rfl (t_ rfl (fun _ => s_add rfl rfl) (t_ rfl (fun _ => s_idx underlying58 ty63 rfl rfl g2) (tr rfl (s_loads underlying63 rfl ty63 rfl (lds_cons (ldI_eq hx3) (lds_cons (ldI_eq hx4) (lds_cons (ldI_eq hx5) (lds_nil))))) (tm (.sl v1) rfl (tm (.int .i64 v3) rfl (t_ rfl (fun _ => s_idx underlying58 ty63 rfl rfl g6) (tr rfl (s_loads underlying63 rfl ty63 rfl (lds_cons (ldI_eq hx7) (lds_cons (ldI_eq hx8) (lds_cons (ldI_eq hx9) (lds_nil))))) (t_ rfl (fun _ => s_idx underlying58 ty63 rfl rfl g10) (Trc.eff rfl rfl rfl (fun _ => trivial) (s_stores ty63 rfl rfl rfl rfl hH11 (Nat.le_of_eq (sts_mono hH11).symm)) (t_ rfl (fun _ => s_idx underlying58 ty63 rfl rfl g12) (Trc.eff rfl rfl rfl (fun _ => trivial) (s_stores ty63 rfl rfl rfl rfl hH13 (Nat.le_of_eq (sts_mono hH13).symm)) (Trc.nil (fun _ => trivial)))))))))))))))))))))) rfl (by decide +kernel) mixed (f_region (m_ (.sl v1) rfl (m_ (.int .i64 v4) rfl (m_ (.int .i64 v5) rfl (m_ (.int .i64 v3) rfl (m_ v2 rfl (o_bind fun p14 hp14 => p_ rfl (s_callF rfl ok354 (sim354 happ hp14)) (f_nil (f_inBlock (f_region (m_ (.int .i64 v5) rfl (p_ rfl (s_sub rfl rfl) ?_))))))))))))
   exact a_ (.int .i64 (w64 (v5 - 1))) rfl (f_nil (f_inLoop (f_keep [0, 3, 8, 9, 12] (ih v1 v2 v3 v4 (w64 (v5 - 1)) p14.2))))
  ·exact kF 33 h1 rfl (f_exit rfl (f_end (.nil) rfl))

theorem s332_l0 {app : App} (happ : AppSim prog app) : ∀ (k_ : Nat) (v1 : Sl) (v2 : AV) (v3 v4 v5 v6 : Int) (H : Hp), Fin prog f332 ret332 60 (todoAt (bodyOf f332) [1, 1, 1, 0, 1, 0, 0] []) [(0, .sl v1), (3, v2), (8, .int .i64 v3), (9, .int .i64 v4), (10, .int .i64 v5), (11, .int .i64 v6)] H (r332_l0 app k_ v1 v2 v3 v4 v5 v6 H) := by
 intro k_
 induction k_ with
 | zero => intro _ _ _ _ _ _ _; exact f_none
 | succ k_ ih =>
  intro v1 v2 v3 v4 v5 v6 H
  rw [r332_l0]
  refine f_seq (q_ (m_ (.int .i64 v6) rfl (p_ rfl (s_geq rfl rfl) (f_nil ?_))))
  refine f_if (fun h1 => ?_) (fun h1 => ?_)
  ·refine kT 21 h1 rfl (f_skip (f_seq (f_block (f_region (m_ (.sl v1) rfl (m_ (.int .i64 v6) rfl (m_ (.int .i64 v5) rfl (m_ (.int .i64 v3) rfl (m_ v2 rfl (o_bind fun p2 hp2 => p_ rfl (s_callF rfl ok354 (sim354 happ hp2)) (f_nil (f_inBlock (f_region ?_)))))))))))))
   exact m_ (.int .i64 v6) rfl (p_ rfl (s_sub rfl rfl) (a_ (.int .i64 (w64 (v6 - 1))) rfl (f_nil (f_inLoop (f_keep [0, 3, 8, 9, 10, 11] (ih v1 v2 v3 v4 v5 (w64 (v6 - 1)) p2.2))))))
  ·exact kF 21 h1 rfl (f_exit rfl (q_ (m_ (.int .i64 v5) rfl (p_ rfl (s_sub rfl rfl) (a_ (.int .i64 (w64 (v5 - 1))) rfl (f_nil (f_block (f_loop (f_keep [0, 3, 8, 9, 12] (s332_l1 happ FUEL v1 v2 v3 v4 (w64 (v5 - 1)) H))))))))))

theorem sim332 {app : App} (happ : AppSim prog app) {a0 : Sl} {a1 : Int} {a2 : Int} {a3 : AV} {H : Hp} {p : Unit × Hp} (h : r332 app a0 a1 a2 a3 H = some p) : CallSim prog 332 [.sl a0, .int .i64 a1, .int .i64 a2, a3] H (.tup []) p.2 := by
 refine callSim (fn := f332) (ret := ret332) func332 rfl Tryz.ntmps332 rfl ?_ h
 unfold r332
 refine q_ (m_ (.int .i64 a1) rfl (a_ (.int .i64 a1) rfl (n_ (a_ (.int .i64 0) rfl (n_ (m_ (.int .i64 a2) rfl (m_ (.int .i64 a1) rfl (p_ rfl (s_sub rfl rfl) (a_ (.int .i64 (w64 (a2 - a1))) rfl (f_nil ?_))))))))))
 exact f_seq (q_ (m_ (.int .i64 (w64 (a2 - a1))) rfl (p_ rfl (s_sub rfl rfl) (p_ rfl (s_quo rfl rfl (by decide)) (a_ (.int .i64 (w64 (Int.tdiv (w64 ((w64 (a2 - a1)) - 1)) 2))) rfl (f_nil (f_block (f_loop (f_keep [0, 3, 8, 9, 10, 11] (s332_l0 happ FUEL a0 a3 a1 0 (w64 (a2 - a1)) (w64 (Int.tdiv (w64 ((w64 (a2 - a1)) - 1)) 2)) H))))))))))

/- 350 slices.nextPowerOfTwo -/
theorem ok350 : FnOk prog 350 := ⟨⟨f350, func350, by kernel_rfl, rfl⟩⟩
theorem sim350 {a0 : Int} {H : Hp} {p : Int × Hp} (h : r350 a0 H = some p) : CallSim prog 350 [.int .i64 a0] H (.int .u64 p.1) p.2 := by
 refine callSim (fn := f350) (ret := ret350) func350 rfl Tryz.ntmps350 rfl ?_ h
 unfold r350
 exact q_ (a_ (.int .u64 0) rfl (n_ (m_ (.int .i64 a0) rfl (p_ rfl (s_convInt underlying3 underlying46 rfl) (o_bind fun p1 hp1 => p_ rfl (s_callF rfl ok296 (sim296 hp1)) (o_ck fun g2 => p_ rfl (s_shl rfl rfl g2) (a_ (.int .u64 (shlOf .u64 1 p1.1)) rfl (f_nil (f_ret (.tmp rfl (.nil)) rfl)))))))))

end Go.Lt.P10
