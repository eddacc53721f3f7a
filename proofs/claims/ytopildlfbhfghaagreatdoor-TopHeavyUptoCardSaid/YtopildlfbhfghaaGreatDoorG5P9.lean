/- PRINTED BY A PROGRAM OF OURS: what each function that 'TopHeavy' reaches computes on the abstract heap, and that the translated code does just that. Nothing is asked of the input. -/
import Derived.Test.YtopildlfbhfghaaGreatDoorG5P8
set_option linter.unusedVariables false
set_option linter.unusedSimpArgs false
set_option maxRecDepth 100000
set_option maxHeartbeats 4000000
namespace Go.Lt.P10
open Go Go.Lt Go.Proofs Go.Proofs.Tryz
/- 5 congou/congoutop.TopHeavy -/
theorem ok5 : FnOk prog 5 := ⟨⟨f5, func5, by kernel_rfl, rfl⟩⟩
theorem s5_j1 {app : App} (happ : AppSim prog app) (kt0 : Nat → Nat → Sl → Sl → Sl → Int → ByteArray → Int → ByteArray → Sl → Int → Int → Hp → Option (Bool × Hp)) (hkt0 : ∀ (v1 v2 : Nat) (v3 v4 v5 : Sl) (v6 : Int) (v7 : ByteArray) (v8 : Int) (v9 : ByteArray) (v10 : Sl) (v11 v12 : Int) (H : Hp), Fin prog f5 ret5 156 (todoAt (bodyOf f5) [1, 1, 1, 1, 1, 1, 1, 1, 1, 0, 1, 0, 0] []) [(5, .ptr v1 v2), (6, .sl v3), (8, .sl v4), (13, .sl v5), (14, .int .i64 v6), (15, .str v7), (16, .int .i64 v8), (17, .str v9), (80, .sl v10), (81, .int .i64 v11), (82, .int .i64 v12)] H (kt0 v1 v2 v3 v4 v5 v6 v7 v8 v9 v10 v11 v12 H)) (v1 v2 : Nat) (v3 v4 v5 : Sl) (v6 : Int) (v7 : ByteArray) (v8 : Int) (v9 : ByteArray) (v10 : Nat) (v11 : Sl) (v12 v13 : Int) (v14 : Bool) (H : Hp) : Fin prog f5 ret5 156 (todoAt (bodyOf f5) [1, 1, 1, 1, 1, 1, 1, 1, 1, 0, 1, 0, 0, 1, 1, 0, 0, 1, 0, 1] []) [(5, .ptr v1 v2), (6, .sl v3), (8, .sl v4), (13, .sl v5), (14, .int .i64 v6), (15, .str v7), (16, .int .i64 v8), (17, .str v9), (19, .ptr v10 0), (80, .sl v11), (81, .int .i64 v12), (82, .int .i64 v13), (99, .bool v14)] H (r5_j1 app kt0 v1 v2 v3 v4 v5 v6 v7 v8 v9 v10 v11 v12 v13 v14 H) := by
 unfold r5_j1
 refine f_if (fun h1 => ?_) (fun h1 => ?_)
 ·exact bT 99 h1 rfl (q_ (a_ (.bool false) rfl (f_nil (f_ret (.tmp rfl (.nil)) rfl))))
 ·refine bF 99 h1 rfl (f_skip (f_region (m_ (.str v9) rfl (m_ (.sl v3) rfl (o_bind fun x2 hx2 => p_ rfl (s_load underlying3 rfl rfl (ldI_eq hx2)) (o_ck fun g3 => p_ rfl (s_idx underlying22 ty9 rfl rfl g3) (o_bind fun x4 hx4 => p_ rfl (s_load underlying9 rfl rfl (ldStr_eq hx4)) (o_ck fun g5 => p_ rfl (s_addStr rfl rfl g5) (o_ck fun g6 => p_ rfl (s_addStr rfl rfl g6) ?_)))))))))
  exact a_ (.str (v9 ++ ((ByteArray.mk #[32]) ++ x4))) rfl (f_nil (f_inBlock (f_region (p_ rfl (s_add rfl rfl) (m_ (.int .i64 (w64 (v13 + 1))) rfl (f_nil (f_inLoop (f_keep [5, 6, 8, 13, 14, 15, 16, 17, 80, 81, 82] (hkt0 v1 v2 v3 v4 v5 v6 v7 v8 (v9 ++ ((ByteArray.mk #[32]) ++ x4)) v11 v12 (w64 (v13 + 1)) H)))))))))

theorem s5_j4 {app : App} (happ : AppSim prog app) (kt3 : Nat → Nat → Sl → Sl → Int → Int → Hp → Option (Bool × Hp)) (hkt3 : ∀ (v1 v2 : Nat) (v3 v4 : Sl) (v5 v6 : Int) (H : Hp), Fin prog f5 ret5 156 (todoAt (bodyOf f5) [1, 1, 1, 1, 1, 1, 1, 1, 1, 1, 1, 0, 1, 0, 0] []) [(5, .ptr v1 v2), (8, .sl v3), (119, .sl v4), (120, .int .i64 v5), (121, .int .i64 v6)] H (kt3 v1 v2 v3 v4 v5 v6 H)) (v1 v2 : Nat) (v3 v4 : Sl) (v5 v6 : Int) (v7 : Bool) (H : Hp) : Fin prog f5 ret5 156 (todoAt (bodyOf f5) [1, 1, 1, 1, 1, 1, 1, 1, 1, 1, 1, 0, 1, 0, 0, 1, 1, 0, 0, 1, 1, 1, 1] []) [(5, .ptr v1 v2), (8, .sl v3), (119, .sl v4), (120, .int .i64 v5), (121, .int .i64 v6), (153, .bool v7)] H (r5_j4 app kt3 v1 v2 v3 v4 v5 v6 v7 H) := by
 unfold r5_j4
 refine f_if (fun h1 => ?_) (fun h1 => ?_)
 ·exact bT 153 h1 rfl (q_ (a_ (.bool false) rfl (f_nil (f_ret (.tmp rfl (.nil)) rfl))))
 ·exact bF 153 h1 rfl (f_skip (f_inBlock (f_region (p_ rfl (s_add rfl rfl) (m_ (.int .i64 (w64 (v6 + 1))) rfl (f_nil (f_inLoop (f_keep [5, 8, 119, 120, 121] (hkt3 v1 v2 v3 v4 v5 (w64 (v6 + 1)) H)))))))))

theorem s5_l3 {app : App} (happ : AppSim prog app) : ∀ (k_ v1 v2 : Nat) (v3 v4 : Sl) (v5 v6 : Int) (H : Hp), Fin prog f5 ret5 156 (todoAt (bodyOf f5) [1, 1, 1, 1, 1, 1, 1, 1, 1, 1, 1, 0, 1, 0, 0] []) [(5, .ptr v1 v2), (8, .sl v3), (119, .sl v4), (120, .int .i64 v5), (121, .int .i64 v6)] H (r5_l3 app k_ v1 v2 v3 v4 v5 v6 H) := by
 intro k_
 induction k_ with
 | zero => intro _ _ _ _ _ _ _; exact f_none
 | succ k_ ih =>
  intro v1 v2 v3 v4 v5 v6 H
  rw [r5_l3]
  refine q_ (p_ rfl (s_lss rfl rfl) (f_nil (f_seq ?_)))
  refine f_if (fun h1 => ?_) (fun h1 => ?_)
  ·refine kT 122 h1 rfl (f_skip (f_seq (f_block (q_ (m_ (.int .i64 v6) rfl (o_ck fun g2 => p_ rfl (s_idx underlying22 ty9 rfl rfl g2) (o_bind fun x3 hx3 => p_ rfl (s_load underlying9 rfl rfl (ldStr_eq hx3)) (a_ (.int .i64 v6) rfl (a_ (.str x3) rfl (f_nil (f_seq ?_)))))))))))
   refine f_region (m_ (.sl v3) rfl (o_bind fun p4 hp4 => p_ rfl (s_callF rfl ok18 (sim18 hp4)) (m_ (.int .i64 v6) rfl (o_bind fun p5 hp5 => p_ rfl (s_callF rfl ok29 (sim29 happ hp5)) (m_ (.tup [.int .i64 p5.1.1, .int .i64 p5.1.2]) rfl (p_ rfl (s_extract (r := .int .i64 p5.1.1) rfl rfl) (p_ rfl (s_extract (r := .int .i64 p5.1.2) rfl rfl) (a_ (.int .i64 p5.1.1) rfl (a_ (.int .i64 p5.1.2) rfl (n_ (m_ (.ptr v1 v2) rfl ?_)))))))))))
   refine m_ (.str x3) rfl (o_ck fun g6 => p_ rfl (s_addStr rfl rfl g6) (o_bind fun p7 hp7 => p_ rfl (s_callF rfl ok14 (sim14 happ hp7)) (m_ (.tup [.str p7.1.1, .int .i64 p7.1.2]) rfl (p_ rfl (s_extract (r := .str p7.1.1) rfl rfl) (p_ rfl (s_extract (r := .int .i64 p7.1.2) rfl rfl) (a_ (.str p7.1.1) rfl (a_ (.int .i64 p7.1.2) rfl (n_ (m_ (.int .i64 p5.1.2) rfl (p_ rfl (s_neq rfl rfl) (m_ (.bool (decide (p5.1.2 ≠ 0))) rfl ?_)))))))))))
   refine o_if (fun h8 => ?_) (fun h8 => ?_)
   ·exact o_know 142 rfl (dec_true h8) (no_ rfl (no_ rfl (p_ rfl (s_pickT (v := .bool true) rfl rfl) (m_ (.bool true) rfl (no_ rfl (no_ rfl (no_ rfl (no_ rfl (no_ rfl (no_ rfl (p_ rfl (s_pickT (v := .bool true) rfl rfl) (f_nil (f_keep [5, 8, 119, 120, 121, 153] (s5_j4 happ _ ih v1 v2 v3 v4 v5 v6 true p7.2))))))))))))))
   ·refine o_know 142 rfl (dec_false h8) (m_ (.int .i64 p7.1.2) rfl (p_ rfl (s_neq rfl rfl) (p_ rfl (s_pickF (v := .bool (decide (p7.1.2 ≠ 0))) rfl rfl) (m_ (.bool (decide (p7.1.2 ≠ 0))) rfl ?_))))
    refine o_if (fun h9 => ?_) (fun h9 => ?_)
    ·exact o_know 146 rfl (dec_true h9) (no_ rfl (no_ rfl (no_ rfl (no_ rfl (no_ rfl (no_ rfl (p_ rfl (s_pickT (v := .bool true) rfl rfl) (f_nil (f_keep [5, 8, 119, 120, 121, 153] (s5_j4 happ _ ih v1 v2 v3 v4 v5 v6 true p7.2))))))))))
    ·exact o_know 146 rfl (dec_false h9) (m_ (.str p7.1.1) rfl (m_ (.int .i64 p5.1.1) rfl (p_ rfl (s_buildSlice (cs := [.int .i64 p5.1.1]) underlying25 ty3 (by decide) (by decide) rfl (by decide) rfl) (o_bind fun p10 hp10 => p_ rfl (s_callF rfl ok19 (sim19 happ hp10)) (o_ck fun g11 => p_ rfl (s_addStr rfl rfl g11) (p_ rfl (s_neStr rfl rfl) (p_ rfl (s_pickF (v := .bool (!(strEq p7.1.1 ((ByteArray.mk #[111, 102, 116, 101, 110]) ++ p10.1)))) rfl rfl) (f_nil (f_keep [5, 8, 119, 120, 121, 153] (s5_j4 happ _ ih v1 v2 v3 v4 v5 v6 (!(strEq p7.1.1 ((ByteArray.mk #[111, 102, 116, 101, 110]) ++ p10.1))) p10.2))))))))))
  ·exact kF 122 h1 rfl (f_exit rfl (q_ (o_bind fun p12 hp12 => o_bind fun x13 hx13 => p_ rfl (s_callA happ rfl hp12) (o_know 155 rfl (asB_eq hx13) (a_ (.bool x13) rfl (f_nil (f_ret (.tmp rfl (.nil)) rfl)))))))

theorem s5_j2 {app : App} (happ : AppSim prog app) (v1 v2 : Nat) (v3 v4 : Sl) (v5 : Bool) (H : Hp) : Fin prog f5 ret5 156 (todoAt (bodyOf f5) [1, 1, 1, 1, 1, 1, 1, 1, 1, 1, 0, 1] []) [(5, .ptr v1 v2), (6, .sl v3), (8, .sl v4), (118, .bool v5)] H (r5_j2 app v1 v2 v3 v4 v5 H) := by
 unfold r5_j2
 refine f_if (fun h1 => ?_) (fun h1 => ?_)
 ·exact bT 118 h1 rfl (q_ (a_ (.bool false) rfl (f_nil (f_ret (.tmp rfl (.nil)) rfl))))
 ·exact bF 118 h1 rfl (f_skip (f_seq (q_ (m_ (.sl v3) rfl (p_ rfl (s_lenS rfl underlying22 rfl) (m_ (.int .i64 0) rfl (f_nil (f_block (f_loop (f_keep [5, 8, 119, 120, 121] (s5_l3 happ FUEL v1 v2 v4 v3 (v3.len : Int) 0 H)))))))))))

theorem s5_l0 {app : App} (happ : AppSim prog app) : ∀ (k_ v1 v2 : Nat) (v3 v4 v5 : Sl) (v6 : Int) (v7 : ByteArray) (v8 : Int) (v9 : ByteArray) (v10 : Sl) (v11 v12 : Int) (H : Hp), Fin prog f5 ret5 156 (todoAt (bodyOf f5) [1, 1, 1, 1, 1, 1, 1, 1, 1, 0, 1, 0, 0] []) [(5, .ptr v1 v2), (6, .sl v3), (8, .sl v4), (13, .sl v5), (14, .int .i64 v6), (15, .str v7), (16, .int .i64 v8), (17, .str v9), (80, .sl v10), (81, .int .i64 v11), (82, .int .i64 v12)] H (r5_l0 app k_ v1 v2 v3 v4 v5 v6 v7 v8 v9 v10 v11 v12 H) := by
 intro k_
 induction k_ with
 | zero => intro _ _ _ _ _ _ _ _ _ _ _ _ _; exact f_none
 | succ k_ ih =>
  intro v1 v2 v3 v4 v5 v6 v7 v8 v9 v10 v11 v12 H
  rw [r5_l0]
  refine q_ (p_ rfl (s_lss rfl rfl) (f_nil (f_seq ?_)))
  refine f_if (fun h1 => ?_) (fun h1 => ?_)
  ·refine kT 83 h1 rfl (f_skip (f_seq (f_block (q_ (o_ck fun g2 => p_ rfl (s_idx underlying25 ty3 rfl rfl g2) (o_bind fun x3 hx3 => p_ rfl (s_load underlying3 rfl rfl (ldI_eq hx3)) (p_ rfl (s_alloc (zs := [.int .i64 0]) ty3 rfl rfl) (o_bind fun H4 hH4 => p_ rfl (s_store (s := 1) ty3 rfl rfl rfl hH4) (f_nil (f_seq ?_))))))))))
   refine q_ (o_bind fun x5 hx5 => p_ rfl (s_load underlying3 rfl rfl (ldI_eq hx5)) (p_ rfl (s_lss rfl rfl) (m_ (.bool (decide (x5 < 0))) rfl ?_)))
   refine o_if (fun h6 => ?_) (fun h6 => ?_)
   ·exact o_know 88 rfl (dec_true h6) (no_ rfl (no_ rfl (no_ rfl (no_ rfl (p_ rfl (s_pickT (v := .bool true) rfl rfl) (m_ (.bool true) rfl (no_ rfl (no_ rfl (no_ rfl (no_ rfl (p_ rfl (s_pickT (v := .bool true) rfl rfl) (f_nil (f_keep [5, 6, 8, 13, 14, 15, 16, 17, 19, 80, 81, 82, 99] (s5_j1 happ _ ih v1 v2 v3 v4 v5 v6 v7 v8 v9 H.n v10 v11 v12 true H4))))))))))))))
   ·refine o_know 88 rfl (dec_false h6) (o_bind fun x7 hx7 => p_ rfl (s_load underlying3 rfl rfl (ldI_eq hx7)) (m_ (.sl v3) rfl (p_ rfl (s_lenS rfl underlying22 rfl) (p_ rfl (s_geq rfl rfl) (p_ rfl (s_pickF (v := .bool (decide ((v3.len : Int) ≤ x7))) rfl rfl) (m_ (.bool (decide ((v3.len : Int) ≤ x7))) rfl ?_))))))
    refine o_if (fun h8 => ?_) (fun h8 => ?_)
    ·exact o_know 94 rfl (dec_true h8) (no_ rfl (no_ rfl (no_ rfl (no_ rfl (p_ rfl (s_pickT (v := .bool true) rfl rfl) (f_nil (f_keep [5, 6, 8, 13, 14, 15, 16, 17, 19, 80, 81, 82, 99] (s5_j1 happ _ ih v1 v2 v3 v4 v5 v6 v7 v8 v9 H.n v10 v11 v12 true H4))))))))
    ·exact o_know 94 rfl (dec_false h8) (m_ (.sl v5) rfl (p_ rfl (s_makeFunc rfl rfl) (o_bind fun p9 hp9 => p_ rfl (s_callF rfl ok27 (sim27 happ hp9)) (p_ rfl (s_not rfl) (p_ rfl (s_pickF (v := .bool (!p9.1)) rfl rfl) (f_nil (f_keep [5, 6, 8, 13, 14, 15, 16, 17, 19, 80, 81, 82, 99] (s5_j1 happ _ ih v1 v2 v3 v4 v5 v6 v7 v8 v9 H.n v10 v11 v12 (!p9.1) p9.2))))))))
  ·refine kF 83 h1 rfl (f_exit rfl (f_seq (q_ (m_ (.int .i64 v6) rfl (p_ rfl (s_neq rfl rfl) (m_ (.bool (decide (v6 ≠ 0))) rfl ?_))))))
   refine o_if (fun h10 => ?_) (fun h10 => ?_)
   ·exact o_know 110 rfl (dec_true h10) (no_ rfl (no_ rfl (p_ rfl (s_pickT (v := .bool true) rfl rfl) (m_ (.bool true) rfl (no_ rfl (no_ rfl (no_ rfl (p_ rfl (s_pickT (v := .bool true) rfl rfl) (f_nil (f_keep [5, 6, 8, 118] (s5_j2 happ v1 v2 v3 v4 true H)))))))))))
   ·refine o_know 110 rfl (dec_false h10) (m_ (.int .i64 v8) rfl (p_ rfl (s_neq rfl rfl) (p_ rfl (s_pickF (v := .bool (decide (v8 ≠ 0))) rfl rfl) (m_ (.bool (decide (v8 ≠ 0))) rfl ?_))))
    refine o_if (fun h11 => ?_) (fun h11 => ?_)
    ·exact o_know 114 rfl (dec_true h11) (no_ rfl (no_ rfl (no_ rfl (p_ rfl (s_pickT (v := .bool true) rfl rfl) (f_nil (f_keep [5, 6, 8, 118] (s5_j2 happ v1 v2 v3 v4 true H)))))))
    ·exact o_know 114 rfl (dec_false h11) (m_ (.str v7) rfl (m_ (.str v9) rfl (p_ rfl (s_neStr rfl rfl) (p_ rfl (s_pickF (v := .bool (!(strEq v7 v9))) rfl rfl) (f_nil (f_keep [5, 6, 8, 118] (s5_j2 happ v1 v2 v3 v4 (!(strEq v7 v9)) H)))))))

theorem sim5 {app : App} (happ : AppSim prog app) {a0 : Sl} {a1 : Int} {H : Hp} {p : Bool × Hp} (h : r5 app a0 a1 H = some p) : CallSim prog 5 [.sl a0, .int .i64 a1] H (.bool p.1) p.2 := by
 refine callSim (fn := f5) (ret := ret5) func5 rfl Tryz.ntmps5 rfl ?_ h
 unfold r5
 refine q_ (a_ (.bool false) rfl (n_ (m_ (.sl a0) rfl (o_bind fun p1 hp1 => p_ rfl (s_callF rfl ok10 (sim10 happ hp1)) (a_ (.ptr p1.1.1 p1.1.2) rfl (n_ (m_ (.ptr p1.1.1 p1.1.2) rfl (o_bind fun p2 hp2 => p_ rfl (s_callF rfl ok11 (sim11 happ hp2)) ?_))))))))
 refine m_ (.tup [.sl p2.1.1, .sl p2.1.2.1, .sl p2.1.2.2.1, .agg [.int .i64 p2.1.2.2.2.1, .int .i64 p2.1.2.2.2.2.1, .int .i64 p2.1.2.2.2.2.2.1, .int .i64 p2.1.2.2.2.2.2.2.1], .sl p2.1.2.2.2.2.2.2.2]) rfl (p_ rfl (s_extract (r := .sl p2.1.1) rfl rfl) (p_ rfl (s_extract (r := .sl p2.1.2.1) rfl rfl) (p_ rfl (s_extract (r := .sl p2.1.2.2.1) rfl rfl) (p_ rfl (s_extract (r := .agg [.int .i64 p2.1.2.2.2.1, .int .i64 p2.1.2.2.2.2.1, .int .i64 p2.1.2.2.2.2.2.1, .int .i64 p2.1.2.2.2.2.2.2.1]) rfl rfl) (p_ rfl (s_extract (r := .sl p2.1.2.2.2.2.2.2.2) rfl rfl) (p_ rfl (s_alloc (zs := [.int .i64 0, .int .i64 0, .int .i64 0, .int .i64 0]) ty26 rfl rfl) (a_ (.sl p2.1.1) rfl (a_ (.sl p2.1.2.1) rfl (a_ (.sl p2.1.2.2.1) rfl (o_bind fun H3 hH3 => p_ rfl (s_stores ty26 rfl rfl rfl rfl hH3 (Nat.le_of_eq (sts_mono hH3).symm)) (a_ (.sl p2.1.2.2.2.2.2.2.2) rfl (n_ ?_))))))))))))
 refine m_ (.int .i64 a1) rfl (p_ rfl (s_convInt underlying3 underlying46 rfl) (p_ rfl (s_rem rfl rfl (by decide)) (p_ rfl (s_convInt underlying46 underlying3 rfl) (a_ (.int .i64 (w64 (Int.tmod (IntKind.wrap .u64 (a1)) 10))) rfl (n_ (m_ (.int .i64 (w64 (Int.tmod (IntKind.wrap .u64 (a1)) 10))) rfl (m_ (.sl p2.1.2.2.1) rfl (o_bind fun p4 hp4 => p_ rfl (s_callF rfl ok18 (sim18 hp4)) (o_bind fun p5 hp5 => p_ rfl (s_callF rfl ok25 (sim25 happ hp5)) (m_ (.tup [.sl p5.1.1, .int .i64 p5.1.2]) rfl (p_ rfl (s_extract (r := .sl p5.1.1) rfl rfl) ?_)))))))))))
 refine p_ rfl (s_extract (r := .int .i64 p5.1.2) rfl rfl) (a_ (.sl p5.1.1) rfl (a_ (.int .i64 p5.1.2) rfl (n_ (m_ (.int .i64 (w64 (Int.tmod (IntKind.wrap .u64 (a1)) 10))) rfl (m_ (.sl p2.1.2.2.1) rfl (o_bind fun p6 hp6 => p_ rfl (s_callF rfl ok18 (sim18 hp6)) (o_bind fun p7 hp7 => p_ rfl (s_callF rfl ok26 (sim26 happ hp7)) (m_ (.tup [.sl p7.1.1, .int .i64 p7.1.2]) rfl (p_ rfl (s_extract (r := .sl p7.1.1) rfl rfl) (p_ rfl (s_extract (r := .int .i64 p7.1.2) rfl rfl) (a_ (.sl p7.1.1) rfl ?_)))))))))))
 refine a_ (.int .i64 p7.1.2) rfl (n_ (m_ (.ptr p1.1.1 p1.1.2) rfl (m_ (.int .i64 (w64 (Int.tmod (IntKind.wrap .u64 (a1)) 10))) rfl (p_ rfl (s_buildSlice (cs := [.int .i64 (w64 (Int.tmod (IntKind.wrap .u64 (a1)) 10))]) underlying25 ty3 (by decide) (by decide) rfl (by decide) rfl) (o_bind fun p8 hp8 => p_ rfl (s_callF rfl ok19 (sim19 happ hp8)) (o_ck fun g9 => p_ rfl (s_addStr rfl rfl g9) (o_bind fun p10 hp10 => p_ rfl (s_callF rfl ok14 (sim14 happ hp10)) (m_ (.tup [.str p10.1.1, .int .i64 p10.1.2]) rfl (p_ rfl (s_extract (r := .str p10.1.1) rfl rfl) (p_ rfl (s_extract (r := .int .i64 p10.1.2) rfl rfl) ?_))))))))))
 refine a_ (.str p10.1.1) rfl (a_ (.int .i64 p10.1.2) rfl (f_nil (f_seq (q_ (m_ (.int .i64 p5.1.2) rfl (p_ rfl (s_neq rfl rfl) (f_nil ?_)))))))
 refine f_if (fun h11 => ?_) (fun h11 => ?_)
 ·refine kT 64 h11 rfl (q_ (m_ (.int .i64 p5.1.2) rfl (m_ (.int .i64 p10.1.2) rfl (p_ rfl (s_eql rfl rfl) (m_ (.bool (decide (p5.1.2 = p10.1.2))) rfl ?_)))))
  refine o_if (fun h12 => ?_) (fun h12 => ?_)
  ·refine o_know 68 rfl (dec_true h12) (m_ (.int .i64 p7.1.2) rfl (m_ (.int .i64 p5.1.2) rfl (p_ rfl (s_eql rfl rfl) (p_ rfl (s_pickT (v := .bool (decide (p7.1.2 = p5.1.2))) rfl rfl) (m_ (.bool (decide (p7.1.2 = p5.1.2))) rfl ?_)))))
   refine o_if (fun h13 => ?_) (fun h13 => ?_)
   ·refine o_know 73 rfl (dec_true h13) (m_ (.str p10.1.1) rfl (p_ rfl (s_eqStr rfl rfl) (p_ rfl (s_pickT (v := .bool (strEq p10.1.1 (ByteArray.mk #[]))) rfl rfl) (m_ (.bool (strEq p10.1.1 (ByteArray.mk #[]))) rfl ?_))))
    refine o_if (fun h14 => ?_) (fun h14 => ?_)
    ·exact o_know 77 rfl (bool_T h14) (o_bind fun p15 hp15 => o_bind fun x16 hx16 => p_ rfl (s_callA happ rfl hp15) (o_know 78 rfl (asB_eq hx16) (p_ rfl (s_pickT (v := .bool x16) rfl rfl) (a_ (.bool x16) rfl (f_nil (f_ret (.tmp rfl (.nil)) rfl))))))
    ·exact o_know 77 rfl (bool_F h14) (no_ rfl (p_ rfl (s_pickF (v := .bool false) rfl rfl) (a_ (.bool false) rfl (f_nil (f_ret (.tmp rfl (.nil)) rfl)))))
   ·exact o_know 73 rfl (dec_false h13) (no_ rfl (no_ rfl (p_ rfl (s_pickF (v := .bool false) rfl rfl) (m_ (.bool false) rfl (no_ rfl (p_ rfl (s_pickF (v := .bool false) rfl rfl) (a_ (.bool false) rfl (f_nil (f_ret (.tmp rfl (.nil)) rfl)))))))))
  ·exact o_know 68 rfl (dec_false h12) (no_ rfl (no_ rfl (no_ rfl (p_ rfl (s_pickF (v := .bool false) rfl rfl) (m_ (.bool false) rfl (no_ rfl (no_ rfl (p_ rfl (s_pickF (v := .bool false) rfl rfl) (m_ (.bool false) rfl (no_ rfl (p_ rfl (s_pickF (v := .bool false) rfl rfl) (a_ (.bool false) rfl (f_nil (f_ret (.tmp rfl (.nil)) rfl))))))))))))))
 ·refine kF 64 h11 rfl (f_skip (q_ (a_ (.str (ByteArray.mk #[104, 101, 97, 118, 121])) rfl (f_nil (f_seq (q_ (m_ (.sl p5.1.1) rfl (p_ rfl (s_lenS rfl underlying25 rfl) (m_ (.int .i64 0) rfl (f_nil (f_block (f_loop ?_))))))))))))
  exact f_keep [5, 6, 8, 13, 14, 15, 16, 17, 80, 81, 82] (s5_l0 happ FUEL p1.1.1 p1.1.2 p2.1.1 p2.1.2.2.1 p7.1.1 p7.1.2 p10.1.1 p10.1.2 (ByteArray.mk #[104, 101, 97, 118, 121]) p5.1.1 (p5.1.1.len : Int) 0 p10.2)

/- 91 congou/counts.isSums -/
theorem ok91 : FnOk prog 91 := ⟨⟨f91, func91, by kernel_rfl, rfl⟩⟩
theorem s91_j1 (kt0 : Int → Sl → Int → Int → Hp → Option (Bool × Hp)) (hkt0 : ∀ (v1 : Int) (v2 : Sl) (v3 v4 : Int) (H : Hp), Fin prog f91 ret91 24 (todoAt (bodyOf f91) [1, 1, 0, 1, 0, 0] []) [(3, .int .i64 v1), (6, .sl v2), (7, .int .i64 v3), (8, .int .i64 v4)] H (kt0 v1 v2 v3 v4 H)) (v1 v2 : Int) (v3 : Sl) (v4 v5 : Int) (v6 : Bool) (H : Hp) : Fin prog f91 ret91 24 (todoAt (bodyOf f91) [1, 1, 0, 1, 0, 0, 1, 1, 0, 0, 1, 0, 1] []) [(3, .int .i64 v1), (5, .int .i64 v2), (6, .sl v3), (7, .int .i64 v4), (8, .int .i64 v5), (17, .bool v6)] H (r91_j1 kt0 v1 v2 v3 v4 v5 v6 H) := by
 unfold r91_j1
 refine f_if (fun h1 => ?_) (fun h1 => ?_)
 ·exact bT 17 h1 rfl (q_ (a_ (.bool false) rfl (f_nil (f_ret (.tmp rfl (.nil)) rfl))))
 ·refine bF 17 h1 rfl (f_skip (f_region (m_ (.int .i64 v1) rfl (m_ (.int .i64 v2) rfl (p_ rfl (s_add rfl rfl) (a_ (.int .i64 (w64 (v1 + v2))) rfl (f_nil (f_inBlock (f_region (p_ rfl (s_add rfl rfl) (m_ (.int .i64 (w64 (v5 + 1))) rfl (f_nil (f_inLoop (f_keep [3, 6, 7, 8] ?_))))))))))))))
  exact hkt0 (w64 (v1 + v2)) v3 v4 (w64 (v5 + 1)) H

theorem s91_l0 : ∀ (k_ : Nat) (v1 : Int) (v2 : Sl) (v3 v4 : Int) (H : Hp), Fin prog f91 ret91 24 (todoAt (bodyOf f91) [1, 1, 0, 1, 0, 0] []) [(3, .int .i64 v1), (6, .sl v2), (7, .int .i64 v3), (8, .int .i64 v4)] H (r91_l0 k_ v1 v2 v3 v4 H) := by
 intro k_
 induction k_ with
 | zero => intro _ _ _ _ _; exact f_none
 | succ k_ ih =>
  intro v1 v2 v3 v4 H
  rw [r91_l0]
  refine q_ (p_ rfl (s_lss rfl rfl) (f_nil (f_seq ?_)))
  refine f_if (fun h1 => ?_) (fun h1 => ?_)
  ·refine kT 9 h1 rfl (f_skip (f_seq (f_block (q_ (o_ck fun g2 => p_ rfl (s_idx underlying25 ty3 rfl rfl g2) (o_bind fun x3 hx3 => p_ rfl (s_load underlying3 rfl rfl (ldI_eq hx3)) (a_ (.int .i64 x3) rfl (f_nil (f_seq (q_ ?_))))))))))
   refine m_ (.int .i64 x3) rfl (p_ rfl (s_lss rfl rfl) (m_ (.bool (decide (x3 < 0))) rfl ?_))
   refine o_if (fun h4 => ?_) (fun h4 => ?_)
   ·exact o_know 14 rfl (dec_true h4) (no_ rfl (no_ rfl (p_ rfl (s_pickT (v := .bool true) rfl rfl) (f_nil (f_keep [3, 5, 6, 7, 8, 17] (s91_j1 _ ih v1 x3 v2 v3 v4 true H))))))
   ·exact o_know 14 rfl (dec_false h4) (m_ (.int .i64 x3) rfl (p_ rfl (s_gtr rfl rfl) (p_ rfl (s_pickF (v := .bool (decide (16 < x3))) rfl rfl) (f_nil (f_keep [3, 5, 6, 7, 8, 17] (s91_j1 _ ih v1 x3 v2 v3 v4 (decide (16 < x3)) H))))))
  ·exact kF 9 h1 rfl (f_exit rfl (q_ (m_ (.int .i64 v1) rfl (p_ rfl (s_leq rfl rfl) (a_ (.bool (decide (v1 ≤ 16))) rfl (f_nil (f_ret (.tmp rfl (.nil)) rfl)))))))

theorem sim91 {a0 : Sl} {H : Hp} {p : Bool × Hp} (h : r91 a0 H = some p) : CallSim prog 91 [.sl a0] H (.bool p.1) p.2 := by
 refine callSim (fn := f91) (ret := ret91) func91 rfl Tryz.ntmps91 rfl ?_ h
 unfold r91
 refine q_ (a_ (.bool false) rfl (n_ (a_ (.int .i64 0) rfl (f_nil (f_seq (q_ (m_ (.sl a0) rfl (p_ rfl (s_lenS rfl underlying25 rfl) (m_ (.int .i64 0) rfl (f_nil (f_block ?_)))))))))))
 exact f_loop (f_keep [3, 6, 7, 8] (s91_l0 FUEL 0 a0 (a0.len : Int) 0 H))

/- 54 (congou/counts.table).valid -/
theorem ok54 : FnOk prog 54 := ⟨⟨f54, func54, by kernel_rfl, rfl⟩⟩
theorem s54_l3 (kt1 : Sl → Int → Sl → Int → Int → Hp → Option (Bool × Hp)) (hkt1 : ∀ (v1 : Sl) (v2 : Int) (v3 : Sl) (v4 v5 : Int) (H : Hp), Fin prog f54 ret54 57 (todoAt (bodyOf f54) [1, 1, 1, 0, 1, 0, 0] []) [(0, .sl v1), (3, .int .i64 v2), (16, .sl v3), (17, .int .i64 v4), (18, .int .i64 v5)] H (kt1 v1 v2 v3 v4 v5 H)) : ∀ (k_ : Nat) (v1 : Sl) (v2 : Int) (v3 : Sl) (v4 v5 : Int) (v6 : Sl) (v7 v8 : Int) (H : Hp), Fin prog f54 ret54 57 (todoAt (bodyOf f54) [1, 1, 1, 0, 1, 0, 0, 1, 1, 0, 0, 1, 1, 1, 0, 0] []) [(0, .sl v1), (3, .int .i64 v2), (16, .sl v3), (17, .int .i64 v4), (18, .int .i64 v5), (44, .sl v6), (45, .int .i64 v7), (46, .int .i64 v8)] H (r54_l3 kt1 k_ v1 v2 v3 v4 v5 v6 v7 v8 H) := by
 intro k_
 induction k_ with
 | zero => intro _ _ _ _ _ _ _ _ _; exact f_none
 | succ k_ ih =>
  intro v1 v2 v3 v4 v5 v6 v7 v8 H
  rw [r54_l3]
  refine q_ (p_ rfl (s_lss rfl rfl) (f_nil (f_seq ?_)))
  refine f_if (fun h1 => ?_) (fun h1 => ?_)
  ·refine kT 47 h1 rfl (f_skip (f_seq (f_block (q_ (o_ck fun g2 => p_ rfl (s_idx underlying25 ty3 rfl rfl g2) (o_bind fun x3 hx3 => p_ rfl (s_load underlying3 rfl rfl (ldI_eq hx3)) (a_ (.int .i64 x3) rfl (f_nil (f_region (m_ (.int .i64 v2) rfl (m_ (.int .i64 x3) rfl ?_)))))))))))
   exact p_ rfl (s_add rfl rfl) (a_ (.int .i64 (w64 (v2 + x3))) rfl (f_nil (f_inBlock (f_region (p_ rfl (s_add rfl rfl) (m_ (.int .i64 (w64 (v8 + 1))) rfl (f_nil (f_inLoop (f_keep [0, 3, 16, 17, 18, 44, 45, 46] (ih v1 (w64 (v2 + x3)) v3 v4 v5 v6 v7 (w64 (v8 + 1)) H))))))))))
  ·exact kF 47 h1 rfl (f_exit rfl (f_inBlock (f_region (p_ rfl (s_add rfl rfl) (m_ (.int .i64 (w64 (v5 + 1))) rfl (f_nil (f_inLoop (f_keep [0, 3, 16, 17, 18] (hkt1 v1 v2 v3 v4 (w64 (v5 + 1)) H)))))))))

theorem s54_j2 (kt1 : Sl → Int → Sl → Int → Int → Hp → Option (Bool × Hp)) (hkt1 : ∀ (v1 : Sl) (v2 : Int) (v3 : Sl) (v4 v5 : Int) (H : Hp), Fin prog f54 ret54 57 (todoAt (bodyOf f54) [1, 1, 1, 0, 1, 0, 0] []) [(0, .sl v1), (3, .int .i64 v2), (16, .sl v3), (17, .int .i64 v4), (18, .int .i64 v5)] H (kt1 v1 v2 v3 v4 v5 H)) (v1 : Sl) (v2 : Int) (v3 v4 : Sl) (v5 v6 : Int) (v7 : Bool) (H : Hp) : Fin prog f54 ret54 57 (todoAt (bodyOf f54) [1, 1, 1, 0, 1, 0, 0, 1, 1, 0, 0, 1, 0, 1] []) [(0, .sl v1), (3, .int .i64 v2), (5, .sl v3), (16, .sl v4), (17, .int .i64 v5), (18, .int .i64 v6), (43, .bool v7)] H (r54_j2 kt1 v1 v2 v3 v4 v5 v6 v7 H) := by
 unfold r54_j2
 refine f_if (fun h1 => ?_) (fun h1 => ?_)
 ·exact bT 43 h1 rfl (q_ (a_ (.bool false) rfl (f_nil (f_ret (.tmp rfl (.nil)) rfl))))
 ·exact bF 43 h1 rfl (f_skip (q_ (m_ (.sl v3) rfl (p_ rfl (s_lenS rfl underlying25 rfl) (m_ (.int .i64 0) rfl (f_nil (f_block (f_loop (f_keep [0, 3, 16, 17, 18, 44, 45, 46] (s54_l3 _ hkt1 FUEL v1 v2 v4 v5 v6 v3 (v3.len : Int) 0 H))))))))))

theorem s54_l1 : ∀ (k_ : Nat) (v1 : Sl) (v2 : Int) (v3 : Sl) (v4 v5 : Int) (H : Hp), Fin prog f54 ret54 57 (todoAt (bodyOf f54) [1, 1, 1, 0, 1, 0, 0] []) [(0, .sl v1), (3, .int .i64 v2), (16, .sl v3), (17, .int .i64 v4), (18, .int .i64 v5)] H (r54_l1 k_ v1 v2 v3 v4 v5 H) := by
 intro k_
 induction k_ with
 | zero => intro _ _ _ _ _ _; exact f_none
 | succ k_ ih =>
  intro v1 v2 v3 v4 v5 H
  rw [r54_l1]
  refine q_ (p_ rfl (s_lss rfl rfl) (f_nil (f_seq ?_)))
  refine f_if (fun h1 => ?_) (fun h1 => ?_)
  ·refine kT 19 h1 rfl (f_skip (f_seq (f_block (q_ (o_ck fun g2 => p_ rfl (s_idx underlying102 ty25 rfl rfl g2) (o_bind fun x3 hx3 => p_ rfl (s_load underlying25 rfl rfl (ldSl_eq hx3)) (a_ (.sl x3) rfl (f_nil (f_seq (q_ ?_))))))))))
   refine m_ (.sl x3) rfl (p_ rfl (s_lenS rfl underlying25 rfl) (p_ rfl (s_lss rfl rfl) (m_ (.bool (decide ((x3.len : Int) < 1))) rfl ?_)))
   refine o_if (fun h4 => ?_) (fun h4 => ?_)
   ·refine o_know 25 rfl (dec_true h4) (no_ rfl (no_ rfl (no_ rfl (p_ rfl (s_pickT (v := .bool true) rfl rfl) (m_ (.bool true) rfl (no_ rfl (no_ rfl (no_ rfl (no_ rfl (no_ rfl (no_ rfl (no_ rfl (p_ rfl (s_pickT (v := .bool true) rfl rfl) (m_ (.bool true) rfl (no_ rfl ?_)))))))))))))))
    exact no_ rfl (no_ rfl (p_ rfl (s_pickT (v := .bool true) rfl rfl) (f_nil (f_keep [0, 3, 5, 16, 17, 18, 43] (s54_j2 _ ih v1 v2 x3 v3 v4 v5 true H)))))
   ·refine o_know 25 rfl (dec_false h4) (m_ (.sl x3) rfl (p_ rfl (s_lenS rfl underlying25 rfl) (p_ rfl (s_gtr rfl rfl) (p_ rfl (s_pickF (v := .bool (decide (3 < (x3.len : Int)))) rfl rfl) (m_ (.bool (decide (3 < (x3.len : Int)))) rfl ?_)))))
    refine o_if (fun h5 => ?_) (fun h5 => ?_)
    ·refine o_know 30 rfl (dec_true h5) (no_ rfl (no_ rfl (no_ rfl (no_ rfl (no_ rfl (no_ rfl (no_ rfl (p_ rfl (s_pickT (v := .bool true) rfl rfl) (m_ (.bool true) rfl (no_ rfl (no_ rfl (no_ rfl (p_ rfl (s_pickT (v := .bool true) rfl rfl) (f_nil (f_keep [0, 3, 5, 16, 17, 18, 43] ?_)))))))))))))))
     exact s54_j2 _ ih v1 v2 x3 v3 v4 v5 true H
    ·refine o_know 30 rfl (dec_false h5) (m_ (.sl x3) rfl (p_ rfl (s_lenS rfl underlying25 rfl) (m_ (.sl v1) rfl (o_ck fun g6 => p_ rfl (s_idx underlying102 ty25 rfl rfl g6) (o_bind fun x7 hx7 => p_ rfl (s_load underlying25 rfl rfl (ldSl_eq hx7)) (p_ rfl (s_lenS rfl underlying25 rfl) (p_ rfl (s_neq rfl rfl) (p_ rfl (s_pickF (v := .bool (decide ((x3.len : Int) ≠ (x7.len : Int)))) rfl rfl) (m_ (.bool (decide ((x3.len : Int) ≠ (x7.len : Int)))) rfl ?_)))))))))
     refine o_if (fun h8 => ?_) (fun h8 => ?_)
     ·exact o_know 39 rfl (dec_true h8) (no_ rfl (no_ rfl (no_ rfl (p_ rfl (s_pickT (v := .bool true) rfl rfl) (f_nil (f_keep [0, 3, 5, 16, 17, 18, 43] (s54_j2 _ ih v1 v2 x3 v3 v4 v5 true H)))))))
     ·exact o_know 39 rfl (dec_false h8) (m_ (.sl x3) rfl (o_bind fun p9 hp9 => p_ rfl (s_callF rfl ok91 (sim91 hp9)) (p_ rfl (s_not rfl) (p_ rfl (s_pickF (v := .bool (!p9.1)) rfl rfl) (f_nil (f_keep [0, 3, 5, 16, 17, 18, 43] (s54_j2 _ ih v1 v2 x3 v3 v4 v5 (!p9.1) p9.2)))))))
  ·exact kF 19 h1 rfl (f_exit rfl (q_ (m_ (.int .i64 v2) rfl (p_ rfl (s_leq rfl rfl) (a_ (.bool (decide (v2 ≤ 16))) rfl (f_nil (f_ret (.tmp rfl (.nil)) rfl)))))))

theorem s54_j0 (v1 : Sl) (v2 : Bool) (H : Hp) : Fin prog f54 ret54 57 (todoAt (bodyOf f54) [1, 0, 1] []) [(0, .sl v1), (15, .bool v2)] H (r54_j0 v1 v2 H) := by
 unfold r54_j0
 refine f_if (fun h1 => ?_) (fun h1 => ?_)
 ·exact bT 15 h1 rfl (q_ (a_ (.bool false) rfl (f_nil (f_ret (.tmp rfl (.nil)) rfl))))
 ·refine bF 15 h1 rfl (f_skip (q_ (a_ (.int .i64 0) rfl (f_nil (f_seq (q_ (m_ (.sl v1) rfl (p_ rfl (s_lenS rfl underlying102 rfl) (m_ (.int .i64 0) rfl (f_nil (f_block (f_loop ?_))))))))))))
  exact f_keep [0, 3, 16, 17, 18] (s54_l1 FUEL v1 0 v1 (v1.len : Int) 0 H)

theorem sim54 {a0 : Sl} {H : Hp} {p : Bool × Hp} (h : r54 a0 H = some p) : CallSim prog 54 [.sl a0] H (.bool p.1) p.2 := by
 refine callSim (fn := f54) (ret := ret54) func54 rfl Tryz.ntmps54 rfl ?_ h
 unfold r54
 refine q_ (a_ (.bool false) rfl (f_nil (f_seq (q_ (m_ (.sl a0) rfl (p_ rfl (s_lenS rfl underlying102 rfl) (p_ rfl (s_lss rfl rfl) (m_ (.bool (decide ((a0.len : Int) < 1))) rfl ?_))))))))
 refine o_if (fun h1 => ?_) (fun h1 => ?_)
 ·exact o_know 11 rfl (dec_true h1) (no_ rfl (no_ rfl (no_ rfl (p_ rfl (s_pickT (v := .bool true) rfl rfl) (f_nil (f_keep [0, 15] (s54_j0 a0 true H)))))))
 ·exact o_know 11 rfl (dec_false h1) (m_ (.sl a0) rfl (p_ rfl (s_lenS rfl underlying102 rfl) (p_ rfl (s_gtr rfl rfl) (p_ rfl (s_pickF (v := .bool (decide (3 < (a0.len : Int)))) rfl rfl) (f_nil (f_keep [0, 15] (s54_j0 a0 (decide (3 < (a0.len : Int))) H)))))))

/- 59 congou/counts.choose -/
theorem ok59 : FnOk prog 59 := ⟨⟨f59, func59, by kernel_rfl, rfl⟩⟩
theorem s59_l1 (kt0 : Int → Int → Sl → Int → Int → Hp → Option (Int × Hp)) (hkt0 : ∀ (v1 v2 : Int) (v3 : Sl) (v4 v5 : Int) (H : Hp), Fin prog f59 ret59 28 (todoAt (bodyOf f59) [1, 1, 0, 1, 0, 0] []) [(3, .int .i64 v1), (4, .int .i64 v2), (8, .sl v3), (9, .int .i64 v4), (10, .int .i64 v5)] H (kt0 v1 v2 v3 v4 v5 H)) : ∀ (k_ : Nat) (v1 v2 v3 v4 : Int) (v5 : Sl) (v6 v7 : Int) (H : Hp), Fin prog f59 ret59 28 (todoAt (bodyOf f59) [1, 1, 0, 1, 0, 0, 1, 1, 0, 0, 1, 1, 0, 0] []) [(3, .int .i64 v1), (4, .int .i64 v2), (6, .int .i64 v3), (7, .int .i64 v4), (8, .sl v5), (9, .int .i64 v6), (10, .int .i64 v7)] H (r59_l1 kt0 k_ v1 v2 v3 v4 v5 v6 v7 H) := by
 intro k_
 induction k_ with
 | zero => intro _ _ _ _ _ _ _ _; exact f_none
 | succ k_ ih =>
  intro v1 v2 v3 v4 v5 v6 v7 H
  rw [r59_l1]
  refine f_seq (q_ (m_ (.int .i64 v4) rfl (m_ (.int .i64 v3) rfl (p_ rfl (s_leq rfl rfl) (f_nil ?_)))))
  refine f_if (fun h1 => ?_) (fun h1 => ?_)
  ·refine kT 16 h1 rfl (f_skip (f_seq (f_block (q_ (m_ (.int .i64 v2) rfl (p_ rfl (s_add rfl rfl) (a_ (.int .i64 (w64 (v2 + 1))) rfl (f_nil (f_region (m_ (.int .i64 v1) rfl (m_ (.int .i64 (w64 (v2 + 1))) rfl (p_ rfl (s_mul rfl rfl) (m_ (.int .i64 v4) rfl ?_)))))))))))))
   exact o_ck fun g2 => p_ rfl (s_quo rfl rfl g2) (a_ (.int .i64 (w64 (Int.tdiv (w64 (v1 * (w64 (v2 + 1)))) v4))) rfl (f_nil (f_inBlock (f_region (m_ (.int .i64 v4) rfl (p_ rfl (s_add rfl rfl) (a_ (.int .i64 (w64 (v4 + 1))) rfl (f_nil (f_inLoop (f_keep [3, 4, 6, 7, 8, 9, 10] (ih (w64 (Int.tdiv (w64 (v1 * (w64 (v2 + 1)))) v4)) (w64 (v2 + 1)) v3 (w64 (v4 + 1)) v5 v6 v7 H)))))))))))
  ·exact kF 16 h1 rfl (f_exit rfl (f_inBlock (f_region (p_ rfl (s_add rfl rfl) (m_ (.int .i64 (w64 (v7 + 1))) rfl (f_nil (f_inLoop (f_keep [3, 4, 8, 9, 10] (hkt0 v1 v2 v5 v6 (w64 (v7 + 1)) H)))))))))

theorem s59_l0 : ∀ (k_ : Nat) (v1 v2 : Int) (v3 : Sl) (v4 v5 : Int) (H : Hp), Fin prog f59 ret59 28 (todoAt (bodyOf f59) [1, 1, 0, 1, 0, 0] []) [(3, .int .i64 v1), (4, .int .i64 v2), (8, .sl v3), (9, .int .i64 v4), (10, .int .i64 v5)] H (r59_l0 k_ v1 v2 v3 v4 v5 H) := by
 intro k_
 induction k_ with
 | zero => intro _ _ _ _ _ _; exact f_none
 | succ k_ ih =>
  intro v1 v2 v3 v4 v5 H
  rw [r59_l0]
  refine q_ (p_ rfl (s_lss rfl rfl) (f_nil (f_seq ?_)))
  refine f_if (fun h1 => ?_) (fun h1 => ?_)
  ·refine kT 11 h1 rfl (f_skip (f_seq (f_block (q_ (o_ck fun g2 => p_ rfl (s_idx underlying25 ty3 rfl rfl g2) (o_bind fun x3 hx3 => p_ rfl (s_load underlying3 rfl rfl (ldI_eq hx3)) (a_ (.int .i64 x3) rfl (n_ (a_ (.int .i64 1) rfl ?_)))))))))
   exact f_nil (f_block (f_loop (f_keep [3, 4, 6, 7, 8, 9, 10] (s59_l1 _ ih FUEL v1 v2 x3 1 v3 v4 v5 H))))
  ·exact kF 11 h1 rfl (f_exit rfl (q_ (m_ (.int .i64 v1) rfl (a_ (.int .i64 v1) rfl (f_nil (f_ret (.tmp rfl (.nil)) rfl))))))

theorem sim59 {a0 : Sl} {H : Hp} {p : Int × Hp} (h : r59 a0 H = some p) : CallSim prog 59 [.sl a0] H (.int .i64 p.1) p.2 := by
 refine callSim (fn := f59) (ret := ret59) func59 rfl Tryz.ntmps59 rfl ?_ h
 unfold r59
 refine q_ (a_ (.int .i64 0) rfl (n_ (a_ (.int .i64 1) rfl (a_ (.int .i64 0) rfl (f_nil (f_seq (q_ (m_ (.sl a0) rfl (p_ rfl (s_lenS rfl underlying25 rfl) (m_ (.int .i64 0) rfl (f_nil ?_)))))))))))
 exact f_block (f_loop (f_keep [3, 4, 8, 9, 10] (s59_l0 FUEL 1 0 a0 (a0.len : Int) 0 H)))

/- 55 (congou/counts.table).weight -/
theorem ok55 : FnOk prog 55 := ⟨⟨f55, func55, by kernel_rfl, rfl⟩⟩
theorem s55_l0 : ∀ (k_ : Nat) (v1 : Int) (v2 : Sl) (v3 v4 : Int) (H : Hp), Fin prog f55 ret55 18 (todoAt (bodyOf f55) [1, 1, 0, 1, 0, 0] []) [(3, .int .i64 v1), (6, .sl v2), (7, .int .i64 v3), (8, .int .i64 v4)] H (r55_l0 k_ v1 v2 v3 v4 H) := by
 intro k_
 induction k_ with
 | zero => intro _ _ _ _ _; exact f_none
 | succ k_ ih =>
  intro v1 v2 v3 v4 H
  rw [r55_l0]
  refine q_ (p_ rfl (s_lss rfl rfl) (f_nil (f_seq ?_)))
  refine f_if (fun h1 => ?_) (fun h1 => ?_)
  ·refine kT 9 h1 rfl (f_skip (f_seq (f_block (q_ (o_ck fun g2 => p_ rfl (s_idx underlying102 ty25 rfl rfl g2) (o_bind fun x3 hx3 => p_ rfl (s_load underlying25 rfl rfl (ldSl_eq hx3)) (a_ (.sl x3) rfl (f_nil (f_region (m_ (.int .i64 v1) rfl (m_ (.sl x3) rfl ?_)))))))))))
   exact o_bind fun p4 hp4 => p_ rfl (s_callF rfl ok59 (sim59 hp4)) (p_ rfl (s_mul rfl rfl) (a_ (.int .i64 (w64 (v1 * p4.1))) rfl (f_nil (f_inBlock (f_region (p_ rfl (s_add rfl rfl) (m_ (.int .i64 (w64 (v4 + 1))) rfl (f_nil (f_inLoop (f_keep [3, 6, 7, 8] (ih (w64 (v1 * p4.1)) v2 v3 (w64 (v4 + 1)) p4.2)))))))))))
  ·exact kF 9 h1 rfl (f_exit rfl (q_ (m_ (.int .i64 v1) rfl (a_ (.int .i64 v1) rfl (f_nil (f_ret (.tmp rfl (.nil)) rfl))))))

theorem sim55 {a0 : Sl} {H : Hp} {p : Int × Hp} (h : r55 a0 H = some p) : CallSim prog 55 [.sl a0] H (.int .i64 p.1) p.2 := by
 refine callSim (fn := f55) (ret := ret55) func55 rfl Tryz.ntmps55 rfl ?_ h
 unfold r55
 refine q_ (a_ (.int .i64 0) rfl (n_ (a_ (.int .i64 1) rfl (f_nil (f_seq (q_ (m_ (.sl a0) rfl (p_ rfl (s_lenS rfl underlying102 rfl) (m_ (.int .i64 0) rfl (f_nil (f_block ?_)))))))))))
 exact f_loop (f_keep [3, 6, 7, 8] (s55_l0 FUEL 1 a0 (a0.len : Int) 0 H))

end Go.Lt.P10
