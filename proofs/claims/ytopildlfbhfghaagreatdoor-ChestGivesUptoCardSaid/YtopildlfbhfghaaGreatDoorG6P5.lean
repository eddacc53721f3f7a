/- PRINTED BY A PROGRAM OF OURS: what each function that 'ChestGives' reaches computes on the abstract heap, and that the translated code does just that. Nothing is asked of the input. -/
import Derived.Test.YtopildlfbhfghaaGreatDoorG6P4
set_option linter.unusedVariables false
set_option linter.unusedSimpArgs false
set_option maxRecDepth 100000
set_option maxHeartbeats 4000000
namespace Go.Lt.P10
open Go Go.Lt Go.Proofs Go.Proofs.Tryz
/- 96 congou/counts.gcd -/
theorem ok96 : FnOk prog 96 := ⟨⟨f96, func96, by kernel_rfl, rfl⟩⟩
theorem s96_l0 : ∀ (k_ : Nat) (v1 v2 : Int) (H : Hp), Fin prog f96 ret96 15 (todoAt (bodyOf f96) [1, 0, 0, 0] []) [(0, .int .i64 v1), (1, .int .i64 v2)] H (r96_l0 k_ v1 v2 H) := by
 intro k_
 induction k_ with
 | zero => intro _ _ _; exact f_none
 | succ k_ ih =>
  intro v1 v2 H
  rw [r96_l0]
  refine f_seq (q_ (m_ (.int .i64 v2) rfl (p_ rfl (s_neq rfl rfl) (f_nil ?_))))
  refine f_if (fun h1 => ?_) (fun h1 => ?_)
  ·exact kT 6 h1 rfl (f_skip (f_block (f_ck fun g2 => f_draw (Φ := fun _ => True) (lim := 1000000) [0, 0, 0, 0, 0, 0] (tm (.int .i64 v2) rfl (tm (.int .i64 v1) rfl (tm (.int .i64 v2) rfl (t_ rfl (fun _ => s_rem rfl rfl g2) (t_ rfl (fun _ => s_as (v := .int .i64 v2) rfl) (t_ rfl (fun _ => s_as (v := .int .i64 (Int.tmod v1 v2)) rfl) (Trc.nil (fun _ => trivial)))))))) rfl (by decide +kernel) mixed (f_inBlock (f_inLoop (f_keep [0, 1] (ih v2 (Int.tmod v1 v2) H)))))))
  ·exact kF 6 h1 rfl (f_exit rfl (q_ (m_ (.int .i64 v1) rfl (m_ (.int .i64 v1) rfl (p_ rfl (s_neg rfl) (p_ rfl (s_max2 rfl rfl) (a_ (.int .i64 (if v1 < (w64 (0 - v1)) then (w64 (0 - v1)) else v1)) rfl (f_nil (f_ret (.tmp rfl (.nil)) rfl)))))))))

theorem sim96 {a0 : Int} {a1 : Int} {H : Hp} {p : Int × Hp} (h : r96 a0 a1 H = some p) : CallSim prog 96 [.int .i64 a0, .int .i64 a1] H (.int .i64 p.1) p.2 := by
 refine callSim (fn := f96) (ret := ret96) func96 rfl Tryz.ntmps96 rfl ?_ h
 unfold r96
 exact q_ (a_ (.int .i64 0) rfl (f_nil (f_seq (f_block (f_loop (f_keep [0, 1] (s96_l0 FUEL a0 a1 H)))))))

/- 58 congou/counts.frac -/
theorem ok58 : FnOk prog 58 := ⟨⟨f58, func58, by kernel_rfl, rfl⟩⟩
theorem sim58 {a0 : Int} {a1 : Int} {H : Hp} {p : (Int × Int) × Hp} (h : r58 a0 a1 H = some p) : CallSim prog 58 [.int .i64 a0, .int .i64 a1] H (.agg [.int .i64 p.1.1, .int .i64 p.1.2]) p.2 := by
 refine callSim (fn := f58) (ret := ret58) func58 rfl Tryz.ntmps58 rfl ?_ h
 unfold r58
 refine q_ (p_ rfl (s_alloc (zs := [.int .i64 0, .int .i64 0]) ty33 rfl rfl) (o_hp fun H1 hH1 => n_ (m_ (.int .i64 a0) rfl (m_ (.int .i64 a1) rfl (o_bind fun p2 hp2 => p_ rfl (s_callF rfl ok96 (sim96 hp2)) (a_ (.int .i64 p2.1) rfl (f_nil (f_seq (f_ck fun g3 => f_ck fun g4 => ?_)))))))))
 exact f_bind fun H5 hH5 => f_draw (Φ := fun _ => True) (lim := 1000000) [0, 0, 0, 0, 0, 0, 0, 2] (tm (.int .i64 a0) rfl (tm (.int .i64 p2.1) rfl (t_ rfl (fun _ => s_quo rfl rfl g3) (tm (.int .i64 a1) rfl (tm (.int .i64 p2.1) rfl (t_ rfl (fun _ => s_quo rfl rfl g4) (t_ rfl (fun _ => s_build (cs := [.int .i64 (w64 (Int.tdiv a0 p2.1)), .int .i64 (w64 (Int.tdiv a1 p2.1))]) underlying33 ty33 rfl pl33 rfl) (Trc.eff rfl rfl rfl (fun _ => trivial) (s_stores ty33 rfl rfl rfl rfl hH5 (Nat.le_of_eq (sts_mono hH5).symm)) (Trc.nil (fun _ => trivial)))))))))) rfl (by decide +kernel) mixed (f_bind fun x6 hx6 => f_bind fun x7 hx7 => f_ret (.cells underlying33 rfl sz33 rfl (lds_cons (ldI_eq hx6) (lds_cons (ldI_eq hx7) (lds_nil))) (.nil)) rfl)

/- 13 congou/counts.Tail -/
theorem ok13 : FnOk prog 13 := ⟨⟨f13, func13, by kernel_rfl, rfl⟩⟩
theorem sim13 {app : App} (happ : AppSim prog app) {a0 : Sl} {H : Hp} {p : (Int × Int × Int) × Hp} (h : r13 app a0 H = some p) : CallSim prog 13 [.sl a0] H (.tup [.agg [.int .i64 p.1.1, .int .i64 p.1.2.1], .int .i64 p.1.2.2]) p.2 := by
 refine callSim (fn := f13) (ret := ret13) func13 rfl Tryz.ntmps13 rfl ?_ h
 unfold r13
 refine q_ (p_ rfl (s_alloc (zs := [.int .i64 0, .int .i64 0]) ty33 rfl rfl) (a_ (.int .i64 0) rfl (o_hp fun H1 hH1 => f_nil (f_seq (q_ (m_ (.sl a0) rfl (o_bind fun p2 hp2 => p_ rfl (s_callF rfl ok54 (sim54 hp2)) (p_ rfl (s_not rfl) (f_nil ?_)))))))))
 refine f_if (fun h3 => ?_) (fun h3 => ?_)
 ·refine f_know 10 rfl (bool_notT h3) (f_condF rfl (f_skip (q_ (m_ (.sl a0) rfl (o_bind fun p4 hp4 => p_ rfl (s_callF rfl ok55 (sim55 hp4)) (p_ rfl (s_alloc (zs := [.int .i64 0]) ty3 rfl rfl) (o_bind fun H5 hH5 => p_ rfl (s_store (s := 1) ty3 rfl rfl rfl hH5) (n_ (p_ rfl (s_alloc (zs := [.int .i64 0]) ty3 rfl rfl) (o_bind fun H6 hH6 => ?_))))))))))
  refine p_ rfl (s_store (s := 1) ty3 rfl rfl rfl hH6) (f_nil (f_seq (q_ (m_ (.sl a0) rfl (o_bind fun p7 hp7 => p_ rfl (s_callF rfl ok56 (sim56 hp7)) (p_ rfl (s_makeFunc rfl rfl) (f_nil (f_block (f_bind fun p8 hp8 => f_bind fun q9 hq9 => f_rangeX happ rfl rfl (lookup_restrict _ [4, 5]) rfl hp8 hq9 ?_)))))))))
  refine f_if (fun h10 => ?_) (fun h10 => ?_)
  ·exact f_jmp0 h10 (f_inBlock (f_seq (f_bind fun x11 hx11 => f_bind fun p12 hp12 => f_bind fun p13 hp13 => f_bind fun p14 hp14 => f_bind fun H15 hH15 => f_ck fun g16 => f_ck fun g17 => f_draw (Φ := fun H_ => H_.ld H5.n 0 = some (.int .i64 x11)) (lim := 5) [0, 0, 2, 0, 2, 2, 2, 0] (Trc.pure rfl rfl rfl (.inr ⟨by decide +kernel, fun _ hp_ => s_load underlying3 rfl rfl hp_⟩) (tm (.sl a0) rfl (Trc.eff rfl rfl rfl (fun _ => ldI_eq hx11) (s_callF rfl ok56 (sim56 hp12)) (t_ rfl (fun _ => s_field (v := .sl p12.1.2) underlying105 rfl underlying25 ty25 rfl rfl) (Trc.eff rfl rfl rfl (fun _ => ldI_eq g16) (s_callF rfl ok59 (sim59 hp13)) (Trc.eff rfl rfl rfl (fun _ => ldI_eq g17) (s_callF rfl ok58 (sim58 hp14)) (Trc.eff rfl rfl rfl (fun h_ => absurd h_ (by decide +kernel)) (s_stores ty33 rfl rfl rfl rfl hH15 (Nat.le_of_eq (sts_mono hH15).symm)) (t_ rfl (fun _ => s_as (v := .int .i64 0) rfl) (Trc.nil (fun h_ => absurd h_ (by decide +kernel))))))))))) rfl (by decide +kernel) mixed (f_bind fun x18 hx18 => f_bind fun x19 hx19 => f_ck fun g20 => f_retD (.cells underlying33 rfl sz33 rfl (lds_cons (ldI_eq hx18) (lds_cons (ldI_eq hx19) (lds_nil))) (.tmp rfl (.nil))) rfl (dfrs_of g20)))))
  ·exact f_none
 ·exact f_know 10 rfl (bool_notF h3) (f_condT rfl (q_ (p_ rfl (s_build (cs := [.int .i64 0, .int .i64 0]) underlying33 ty33 rfl pl33 rfl) (o_bind fun H21 hH21 => p_ rfl (s_stores ty33 rfl rfl rfl rfl hH21 (Nat.le_of_eq (sts_mono hH21).symm)) (a_ (.int .i64 2) rfl (f_nil (f_bind fun x22 hx22 => f_bind fun x23 hx23 => f_ret (.cells underlying33 rfl sz33 rfl (lds_cons (ldI_eq hx22) (lds_cons (ldI_eq hx23) (lds_nil))) (.tmp rfl (.nil))) rfl)))))))

theorem sim13q0 {app : App} (happ : AppSim prog app) {l_ : Nat} {v1 : Nat} {v2 : Nat} {y0 : Sl} {H : Hp} : FinG prog PostR ⟨32, [], some l_⟩ [.code (siteTab 0).2.1, .beginRound, .code (siteTab 0).2.2] (zipF [17] [.sl y0] [(4, .ptr v1 0), (5, .ptr v2 0)]) H (r13q0 app l_ v1 v2 y0 H) := by
 show FinG prog PostR ⟨32, [], some l_⟩ (todoAt (bodyOf f13) [1, 1, 1, 1, 0, 1, 0, 0] []) [(17, .sl y0), (4, .ptr v1 0), (5, .ptr v2 0)] H _
 unfold r13q0
 refine f_region (a_ (.sl y0) rfl (f_nil (f_bind fun H1 hH1 => f_beginX rfl hH1 (f_block (q_ (m_ (.sl y0) rfl (o_bind fun p2 hp2 => p_ rfl (s_callF rfl ok55 (sim55 hp2)) (a_ (.int .i64 p2.1) rfl (n_ (m_ (.int .i64 p2.1) rfl ?_))))))))))
 refine o_bind fun x3 hx3 => p_ rfl (s_load underlying3 rfl rfl (ldI_eq hx3)) (p_ rfl (s_leq rfl rfl) (f_nil ?_))
 refine f_if (fun h4 => ?_) (fun h4 => ?_)
 ·exact kT 22 h4 rfl (f_region (o_bind fun x5 hx5 => p_ rfl (s_load underlying3 rfl rfl (ldI_eq hx5)) (m_ (.int .i64 p2.1) rfl (p_ rfl (s_add rfl rfl) (o_bind fun H6 hH6 => p_ rfl (s_store (s := 1) ty3 rfl rfl rfl hH6) (f_nil (f_inBlock (f_rend))))))))
 ·exact kF 22 h4 rfl (f_skip (f_inBlock (f_rend)))

/- 94 slices.Max[[]int,int] -/
theorem ok94 : FnOk prog 94 := ⟨⟨f94, func94, by kernel_rfl, rfl⟩⟩
theorem s94_l0 : ∀ (k_ : Nat) (v1 : Sl) (v2 v3 : Int) (H : Hp), Fin prog f94 ret94 25 (todoAt (bodyOf f94) [1, 1, 1, 0, 1, 0, 0] []) [(0, .sl v1), (3, .int .i64 v2), (4, .int .i64 v3)] H (r94_l0 k_ v1 v2 v3 H) := by
 intro k_
 induction k_ with
 | zero => intro _ _ _ _; exact f_none
 | succ k_ ih =>
  intro v1 v2 v3 H
  rw [r94_l0]
  refine f_seq (q_ (m_ (.int .i64 v3) rfl (m_ (.sl v1) rfl (p_ rfl (s_lenS rfl underlying25 rfl) (p_ rfl (s_lss rfl rfl) (f_nil ?_))))))
  refine f_if (fun h1 => ?_) (fun h1 => ?_)
  ·refine kT 15 h1 rfl (f_skip (f_seq (f_block (f_region (m_ (.int .i64 v2) rfl (m_ (.sl v1) rfl (m_ (.int .i64 v3) rfl (o_ck fun g2 => p_ rfl (s_idx underlying25 ty3 rfl rfl g2) (o_bind fun x3 hx3 => p_ rfl (s_load underlying3 rfl rfl (ldI_eq hx3)) (p_ rfl (s_max2 rfl rfl) (a_ (.int .i64 (if v2 < x3 then x3 else v2)) rfl (f_nil ?_))))))))))))
   exact f_inBlock (f_region (m_ (.int .i64 v3) rfl (p_ rfl (s_add rfl rfl) (a_ (.int .i64 (w64 (v3 + 1))) rfl (f_nil (f_inLoop (f_keep [0, 3, 4] (ih v1 (if v2 < x3 then x3 else v2) (w64 (v3 + 1)) H))))))))
  ·exact kF 15 h1 rfl (f_exit rfl (q_ (m_ (.int .i64 v2) rfl (a_ (.int .i64 v2) rfl (f_nil (f_ret (.tmp rfl (.nil)) rfl))))))

theorem sim94 {a0 : Sl} {H : Hp} {p : Int × Hp} (h : r94 a0 H = some p) : CallSim prog 94 [.sl a0] H (.int .i64 p.1) p.2 := by
 refine callSim (fn := f94) (ret := ret94) func94 rfl Tryz.ntmps94 rfl ?_ h
 unfold r94
 refine q_ (a_ (.int .i64 0) rfl (f_nil (f_seq (q_ (m_ (.sl a0) rfl (p_ rfl (s_lenS rfl underlying25 rfl) (p_ rfl (s_lss rfl rfl) (f_nil ?_))))))))
 refine f_if (fun h1 => ?_) (fun h1 => ?_)
 ·exact kT 7 h1 rfl (f_region (o_none))
 ·refine kF 7 h1 rfl (f_skip (q_ (m_ (.sl a0) rfl (o_ck fun g2 => p_ rfl (s_idx underlying25 ty3 rfl rfl g2) (o_bind fun x3 hx3 => p_ rfl (s_load underlying3 rfl rfl (ldI_eq hx3)) (a_ (.int .i64 x3) rfl (f_nil (f_seq (q_ (a_ (.int .i64 1) rfl ?_))))))))))
  exact f_nil (f_block (f_loop (f_keep [0, 3, 4] (s94_l0 FUEL a0 x3 1 H))))

/- 110 slices.Min[[]int,int] -/
theorem ok110 : FnOk prog 110 := ⟨⟨f110, func110, by kernel_rfl, rfl⟩⟩
theorem s110_l0 : ∀ (k_ : Nat) (v1 : Sl) (v2 v3 : Int) (H : Hp), Fin prog f110 ret110 25 (todoAt (bodyOf f110) [1, 1, 1, 0, 1, 0, 0] []) [(0, .sl v1), (3, .int .i64 v2), (4, .int .i64 v3)] H (r110_l0 k_ v1 v2 v3 H) := by
 intro k_
 induction k_ with
 | zero => intro _ _ _ _; exact f_none
 | succ k_ ih =>
  intro v1 v2 v3 H
  rw [r110_l0]
  refine f_seq (q_ (m_ (.int .i64 v3) rfl (m_ (.sl v1) rfl (p_ rfl (s_lenS rfl underlying25 rfl) (p_ rfl (s_lss rfl rfl) (f_nil ?_))))))
  refine f_if (fun h1 => ?_) (fun h1 => ?_)
  ·refine kT 15 h1 rfl (f_skip (f_seq (f_block (f_region (m_ (.int .i64 v2) rfl (m_ (.sl v1) rfl (m_ (.int .i64 v3) rfl (o_ck fun g2 => p_ rfl (s_idx underlying25 ty3 rfl rfl g2) (o_bind fun x3 hx3 => p_ rfl (s_load underlying3 rfl rfl (ldI_eq hx3)) (p_ rfl (s_min2 rfl rfl) (a_ (.int .i64 (if x3 < v2 then x3 else v2)) rfl (f_nil ?_))))))))))))
   exact f_inBlock (f_region (m_ (.int .i64 v3) rfl (p_ rfl (s_add rfl rfl) (a_ (.int .i64 (w64 (v3 + 1))) rfl (f_nil (f_inLoop (f_keep [0, 3, 4] (ih v1 (if x3 < v2 then x3 else v2) (w64 (v3 + 1)) H))))))))
  ·exact kF 15 h1 rfl (f_exit rfl (q_ (m_ (.int .i64 v2) rfl (a_ (.int .i64 v2) rfl (f_nil (f_ret (.tmp rfl (.nil)) rfl))))))

theorem sim110 {a0 : Sl} {H : Hp} {p : Int × Hp} (h : r110 a0 H = some p) : CallSim prog 110 [.sl a0] H (.int .i64 p.1) p.2 := by
 refine callSim (fn := f110) (ret := ret110) func110 rfl Tryz.ntmps110 rfl ?_ h
 unfold r110
 refine q_ (a_ (.int .i64 0) rfl (f_nil (f_seq (q_ (m_ (.sl a0) rfl (p_ rfl (s_lenS rfl underlying25 rfl) (p_ rfl (s_lss rfl rfl) (f_nil ?_))))))))
 refine f_if (fun h1 => ?_) (fun h1 => ?_)
 ·exact kT 7 h1 rfl (f_region (o_none))
 ·refine kF 7 h1 rfl (f_skip (q_ (m_ (.sl a0) rfl (o_ck fun g2 => p_ rfl (s_idx underlying25 ty3 rfl rfl g2) (o_bind fun x3 hx3 => p_ rfl (s_load underlying3 rfl rfl (ldI_eq hx3)) (a_ (.int .i64 x3) rfl (f_nil (f_seq (q_ (a_ (.int .i64 1) rfl ?_))))))))))
  exact f_nil (f_block (f_loop (f_keep [0, 3, 4] (s110_l0 FUEL a0 x3 1 H))))

/- 63 congou/shares.are -/
theorem ok63 : FnOk prog 63 := ⟨⟨f63, func63, by kernel_rfl, rfl⟩⟩
theorem s63_j1 (kt0 : Sl → Sl → Int → Int → Hp → Option (Bool × Hp)) (hkt0 : ∀ (v1 v2 : Sl) (v3 v4 : Int) (H : Hp), Fin prog f63 ret63 39 (todoAt (bodyOf f63) [1, 0, 1, 0, 0] []) [(0, .sl v1), (5, .sl v2), (6, .int .i64 v3), (7, .int .i64 v4)] H (kt0 v1 v2 v3 v4 H)) (v1 v2 : Sl) (v3 v4 : Int) (v5 : Bool) (H : Hp) : Fin prog f63 ret63 39 (todoAt (bodyOf f63) [1, 0, 1, 0, 0, 1, 1, 0, 0, 1, 1] []) [(0, .sl v1), (5, .sl v2), (6, .int .i64 v3), (7, .int .i64 v4), (37, .bool v5)] H (r63_j1 kt0 v1 v2 v3 v4 v5 H) := by
 unfold r63_j1
 refine f_if (fun h1 => ?_) (fun h1 => ?_)
 ·exact bT 37 h1 rfl (q_ (a_ (.bool false) rfl (f_nil (f_ret (.tmp rfl (.nil)) rfl))))
 ·exact bF 37 h1 rfl (f_skip (f_inBlock (f_region (p_ rfl (s_add rfl rfl) (m_ (.int .i64 (w64 (v4 + 1))) rfl (f_nil (f_inLoop (f_keep [0, 5, 6, 7] (hkt0 v1 v2 v3 (w64 (v4 + 1)) H)))))))))

theorem s63_l0 : ∀ (k_ : Nat) (v1 v2 : Sl) (v3 v4 : Int) (H : Hp), Fin prog f63 ret63 39 (todoAt (bodyOf f63) [1, 0, 1, 0, 0] []) [(0, .sl v1), (5, .sl v2), (6, .int .i64 v3), (7, .int .i64 v4)] H (r63_l0 k_ v1 v2 v3 v4 H) := by
 intro k_
 induction k_ with
 | zero => intro _ _ _ _ _; exact f_none
 | succ k_ ih =>
  intro v1 v2 v3 v4 H
  rw [r63_l0]
  refine q_ (p_ rfl (s_lss rfl rfl) (f_nil (f_seq ?_)))
  refine f_if (fun h1 => ?_) (fun h1 => ?_)
  ·refine kT 8 h1 rfl (f_skip (f_seq (f_block (q_ (o_ck fun g2 => p_ rfl (s_idx underlying31 ty25 rfl rfl g2) (o_bind fun x3 hx3 => p_ rfl (s_load underlying25 rfl rfl (ldSl_eq hx3)) (a_ (.sl x3) rfl (n_ (m_ (.sl x3) rfl ?_)))))))))
   refine p_ rfl (s_lenS rfl underlying25 rfl) (p_ rfl (s_lss rfl rfl) (m_ (.bool (decide ((x3.len : Int) < 1))) rfl ?_))
   refine o_if (fun h4 => ?_) (fun h4 => ?_)
   ·refine o_know 14 rfl (dec_true h4) (no_ rfl (no_ rfl (no_ rfl (p_ rfl (s_pickT (v := .bool true) rfl rfl) (m_ (.bool true) rfl (no_ rfl (no_ rfl (no_ rfl (no_ rfl (no_ rfl (no_ rfl (no_ rfl (p_ rfl (s_pickT (v := .bool true) rfl rfl) (m_ (.bool true) rfl (no_ rfl ?_)))))))))))))))
    exact no_ rfl (no_ rfl (p_ rfl (s_pickT (v := .bool true) rfl rfl) (m_ (.bool true) rfl (no_ rfl (no_ rfl (no_ rfl (p_ rfl (s_pickT (v := .bool true) rfl rfl) (f_nil (f_keep [0, 5, 6, 7, 37] (s63_j1 _ ih v1 v2 v3 v4 true H))))))))))
   ·refine o_know 14 rfl (dec_false h4) (m_ (.sl x3) rfl (p_ rfl (s_lenS rfl underlying25 rfl) (p_ rfl (s_gtr rfl rfl) (p_ rfl (s_pickF (v := .bool (decide (6 < (x3.len : Int)))) rfl rfl) (m_ (.bool (decide (6 < (x3.len : Int)))) rfl ?_)))))
    refine o_if (fun h5 => ?_) (fun h5 => ?_)
    ·refine o_know 19 rfl (dec_true h5) (no_ rfl (no_ rfl (no_ rfl (no_ rfl (no_ rfl (no_ rfl (no_ rfl (p_ rfl (s_pickT (v := .bool true) rfl rfl) (m_ (.bool true) rfl (no_ rfl (no_ rfl (no_ rfl (p_ rfl (s_pickT (v := .bool true) rfl rfl) (m_ (.bool true) rfl (no_ rfl ?_)))))))))))))))
     exact no_ rfl (no_ rfl (p_ rfl (s_pickT (v := .bool true) rfl rfl) (f_nil (f_keep [0, 5, 6, 7, 37] (s63_j1 _ ih v1 v2 v3 v4 true H)))))
    ·refine o_know 19 rfl (dec_false h5) (m_ (.sl x3) rfl (p_ rfl (s_lenS rfl underlying25 rfl) (m_ (.sl v1) rfl (o_ck fun g6 => p_ rfl (s_idx underlying31 ty25 rfl rfl g6) (o_bind fun x7 hx7 => p_ rfl (s_load underlying25 rfl rfl (ldSl_eq hx7)) (p_ rfl (s_lenS rfl underlying25 rfl) (p_ rfl (s_neq rfl rfl) (p_ rfl (s_pickF (v := .bool (decide ((x3.len : Int) ≠ (x7.len : Int)))) rfl rfl) (m_ (.bool (decide ((x3.len : Int) ≠ (x7.len : Int)))) rfl ?_)))))))))
     refine o_if (fun h8 => ?_) (fun h8 => ?_)
     ·exact o_know 28 rfl (dec_true h8) (no_ rfl (no_ rfl (no_ rfl (p_ rfl (s_pickT (v := .bool true) rfl rfl) (m_ (.bool true) rfl (no_ rfl (no_ rfl (no_ rfl (p_ rfl (s_pickT (v := .bool true) rfl rfl) (f_nil (f_keep [0, 5, 6, 7, 37] (s63_j1 _ ih v1 v2 v3 v4 true H))))))))))))
     ·refine o_know 28 rfl (dec_false h8) (m_ (.sl x3) rfl (o_bind fun p9 hp9 => p_ rfl (s_callF rfl ok110 (sim110 hp9)) (p_ rfl (s_lss rfl rfl) (p_ rfl (s_pickF (v := .bool (decide (p9.1 < 0))) rfl rfl) (m_ (.bool (decide (p9.1 < 0))) rfl ?_)))))
      refine o_if (fun h10 => ?_) (fun h10 => ?_)
      ·exact o_know 33 rfl (dec_true h10) (no_ rfl (no_ rfl (no_ rfl (p_ rfl (s_pickT (v := .bool true) rfl rfl) (f_nil (f_keep [0, 5, 6, 7, 37] (s63_j1 _ ih v1 v2 v3 v4 true p9.2)))))))
      ·exact o_know 33 rfl (dec_false h10) (m_ (.sl x3) rfl (o_bind fun p11 hp11 => p_ rfl (s_callF rfl ok94 (sim94 hp11)) (p_ rfl (s_gtr rfl rfl) (p_ rfl (s_pickF (v := .bool (decide (20 < p11.1))) rfl rfl) (f_nil (f_keep [0, 5, 6, 7, 37] (s63_j1 _ ih v1 v2 v3 v4 (decide (20 < p11.1)) p11.2)))))))
  ·exact kF 8 h1 rfl (f_exit rfl (q_ (a_ (.bool true) rfl (f_nil (f_ret (.tmp rfl (.nil)) rfl)))))

theorem sim63 {a0 : Sl} {H : Hp} {p : Bool × Hp} (h : r63 a0 H = some p) : CallSim prog 63 [.sl a0] H (.bool p.1) p.2 := by
 refine callSim (fn := f63) (ret := ret63) func63 rfl Tryz.ntmps63 rfl ?_ h
 unfold r63
 exact q_ (a_ (.bool false) rfl (f_nil (f_seq (q_ (m_ (.sl a0) rfl (p_ rfl (s_lenS rfl underlying31 rfl) (m_ (.int .i64 0) rfl (f_nil (f_block (f_loop (f_keep [0, 5, 6, 7] (s63_l0 FUEL a0 a0 (a0.len : Int) 0 H))))))))))))

/- 17 congou/shares.Gap -/
theorem ok17 : FnOk prog 17 := ⟨⟨f17, func17, by kernel_rfl, rfl⟩⟩
theorem s17_l1 (kt0 : Sl → Int → Sl → Int → Int → Hp → Option ((Int × Int) × Hp)) (hkt0 : ∀ (v1 : Sl) (v2 : Int) (v3 : Sl) (v4 v5 : Int) (H : Hp), Fin prog f17 ret17 40 (todoAt (bodyOf f17) [1, 1, 1, 0, 1, 0, 0] []) [(0, .sl v1), (4, .int .i64 v2), (13, .sl v3), (14, .int .i64 v4), (15, .int .i64 v5)] H (kt0 v1 v2 v3 v4 v5 H)) : ∀ (k_ : Nat) (v1 : Sl) (v2 v3 : Int) (v4 : Sl) (v5 v6 : Int) (v7 : Sl) (v8 v9 : Int) (H : Hp), Fin prog f17 ret17 40 (todoAt (bodyOf f17) [1, 1, 1, 0, 1, 0, 0, 1, 1, 0, 0, 1, 1, 0, 0] []) [(0, .sl v1), (4, .int .i64 v2), (6, .int .i64 v3), (13, .sl v4), (14, .int .i64 v5), (15, .int .i64 v6), (22, .sl v7), (23, .int .i64 v8), (24, .int .i64 v9)] H (r17_l1 kt0 k_ v1 v2 v3 v4 v5 v6 v7 v8 v9 H) := by
 intro k_
 induction k_ with
 | zero => intro _ _ _ _ _ _ _ _ _ _; exact f_none
 | succ k_ ih =>
  intro v1 v2 v3 v4 v5 v6 v7 v8 v9 H
  rw [r17_l1]
  refine q_ (p_ rfl (s_lss rfl rfl) (f_nil (f_seq ?_)))
  refine f_if (fun h1 => ?_) (fun h1 => ?_)
  ·refine kT 25 h1 rfl (f_skip (f_seq (f_block (q_ (o_ck fun g2 => p_ rfl (s_idx underlying25 ty3 rfl rfl g2) (o_bind fun x3 hx3 => p_ rfl (s_load underlying3 rfl rfl (ldI_eq hx3)) (a_ (.int .i64 x3) rfl (f_nil (f_region (m_ (.int .i64 v2) rfl (m_ (.int .i64 v3) rfl ?_)))))))))))
   refine m_ (.int .i64 x3) rfl (p_ rfl (s_sub rfl rfl) (m_ (.int .i64 x3) rfl (m_ (.int .i64 v3) rfl (p_ rfl (s_sub rfl rfl) (p_ rfl (s_max2 rfl rfl) (p_ rfl (s_add rfl rfl) (a_ (.int .i64 (w64 (v2 + (if (w64 (v3 - x3)) < (w64 (x3 - v3)) then (w64 (x3 - v3)) else (w64 (v3 - x3)))))) rfl (f_nil (f_inBlock (f_region (p_ rfl (s_add rfl rfl) (m_ (.int .i64 (w64 (v9 + 1))) rfl (f_nil (f_inLoop (f_keep [0, 4, 6, 13, 14, 15, 22, 23, 24] ?_)))))))))))))))
   exact ih v1 (w64 (v2 + (if (w64 (v3 - x3)) < (w64 (x3 - v3)) then (w64 (x3 - v3)) else (w64 (v3 - x3))))) v3 v4 v5 v6 v7 v8 (w64 (v9 + 1)) H
  ·exact kF 25 h1 rfl (f_exit rfl (f_inBlock (f_region (p_ rfl (s_add rfl rfl) (m_ (.int .i64 (w64 (v6 + 1))) rfl (f_nil (f_inLoop (f_keep [0, 4, 13, 14, 15] (hkt0 v1 v2 v4 v5 (w64 (v6 + 1)) H)))))))))

theorem s17_l0 : ∀ (k_ : Nat) (v1 : Sl) (v2 : Int) (v3 : Sl) (v4 v5 : Int) (H : Hp), Fin prog f17 ret17 40 (todoAt (bodyOf f17) [1, 1, 1, 0, 1, 0, 0] []) [(0, .sl v1), (4, .int .i64 v2), (13, .sl v3), (14, .int .i64 v4), (15, .int .i64 v5)] H (r17_l0 k_ v1 v2 v3 v4 v5 H) := by
 intro k_
 induction k_ with
 | zero => intro _ _ _ _ _ _; exact f_none
 | succ k_ ih =>
  intro v1 v2 v3 v4 v5 H
  rw [r17_l0]
  refine q_ (p_ rfl (s_lss rfl rfl) (f_nil (f_seq ?_)))
  refine f_if (fun h1 => ?_) (fun h1 => ?_)
  ·refine kT 16 h1 rfl (f_skip (f_seq (f_block (q_ (m_ (.int .i64 v5) rfl (o_ck fun g2 => p_ rfl (s_idx underlying25 ty3 rfl rfl g2) (o_bind fun x3 hx3 => p_ rfl (s_load underlying3 rfl rfl (ldI_eq hx3)) (a_ (.int .i64 v5) rfl (a_ (.int .i64 x3) rfl (f_nil (f_seq ?_)))))))))))
   exact f_region (m_ (.sl v1) rfl (m_ (.int .i64 v5) rfl (o_ck fun g4 => p_ rfl (s_slice underlying25 ty3 rfl rfl rfl g4.1 g4.2) (p_ rfl (s_lenS rfl underlying25 rfl) (m_ (.int .i64 0) rfl (f_nil (f_block (f_loop (f_keep [0, 4, 6, 13, 14, 15, 22, 23, 24] (s17_l1 _ ih FUEL v1 v2 x3 v3 v4 v5 (v1.cut 1 (0 : Int).toNat (v5 : Int).toNat) ((v1.cut 1 (0 : Int).toNat (v5 : Int).toNat).len : Int) 0 H))))))))))
  ·exact kF 16 h1 rfl (f_exit rfl (q_ (m_ (.int .i64 v2) rfl (a_ (.int .i64 v2) rfl (a_ (.int .i64 0) rfl (f_nil (f_ret (.tmp rfl (.tmp rfl (.nil))) rfl)))))))

theorem sim17 {a0 : Sl} {H : Hp} {p : (Int × Int) × Hp} (h : r17 a0 H = some p) : CallSim prog 17 [.sl a0] H (.tup [.int .i64 p.1.1, .int .i64 p.1.2]) p.2 := by
 refine callSim (fn := f17) (ret := ret17) func17 rfl Tryz.ntmps17 rfl ?_ h
 unfold r17
 refine q_ (a_ (.int .i64 0) rfl (a_ (.int .i64 0) rfl (f_nil (f_seq (q_ (m_ (.sl a0) rfl (p_ rfl (s_buildSlice (cs := [.sl a0]) underlying31 ty25 (by decide) (by decide) rfl (by decide) rfl) (o_bind fun p1 hp1 => p_ rfl (s_callF rfl ok63 (sim63 hp1)) (p_ rfl (s_not rfl) (f_nil ?_))))))))))
 refine f_if (fun h2 => ?_) (fun h2 => ?_)
 ·refine f_know 12 rfl (bool_notT h2) (f_condF rfl (f_skip (q_ (a_ (.int .i64 0) rfl (f_nil (f_seq (q_ (m_ (.sl a0) rfl (p_ rfl (s_lenS rfl underlying25 rfl) (m_ (.int .i64 0) rfl (f_nil (f_block (f_loop ?_)))))))))))))
  exact f_keep [0, 4, 13, 14, 15] (s17_l0 FUEL a0 0 a0 (a0.len : Int) 0 p1.2)
 ·exact f_know 12 rfl (bool_notF h2) (f_condT rfl (q_ (a_ (.int .i64 0) rfl (a_ (.int .i64 2) rfl (f_nil (f_ret (.tmp rfl (.tmp rfl (.nil))) rfl))))))

/- 21 slices.Equal[[]int,int] -/
theorem ok21 : FnOk prog 21 := ⟨⟨f21, func21, by kernel_rfl, rfl⟩⟩
theorem s21_l0 : ∀ (k_ : Nat) (v1 v2 : Sl) (v3 v4 : Int) (H : Hp), Fin prog f21 ret21 26 (todoAt (bodyOf f21) [1, 1, 0, 1, 0, 0] []) [(0, .sl v1), (1, .sl v2), (12, .int .i64 v3), (13, .int .i64 v4)] H (r21_l0 k_ v1 v2 v3 v4 H) := by
 intro k_
 induction k_ with
 | zero => intro _ _ _ _ _; exact f_none
 | succ k_ ih =>
  intro v1 v2 v3 v4 H
  rw [r21_l0]
  refine q_ (p_ rfl (s_lss rfl rfl) (f_nil (f_seq ?_)))
  refine f_if (fun h1 => ?_) (fun h1 => ?_)
  ·refine kT 14 h1 rfl (f_skip (f_seq (f_block (q_ (m_ (.int .i64 v4) rfl (a_ (.int .i64 v4) rfl (f_nil (f_seq (f_ck fun g2 => f_bind fun x3 hx3 => f_ck fun g4 => f_bind fun x5 hx5 => f_draw (Φ := fun _ => True) (lim := 1000000) [0, 0, 0, 1, 0, 0, 0, 1, 0] (tm (.sl v1) rfl (tm (.int .i64 v4) rfl (t_ rfl (fun _ => s_idx underlying25 ty3 rfl rfl g2) (tr rfl (s_load underlying3 rfl rfl (ldI_eq hx3)) (tm (.sl v2) rfl (tm (.int .i64 v4) rfl (t_ rfl (fun _ => s_idx underlying25 ty3 rfl rfl g4) (tr rfl (s_load underlying3 rfl rfl (ldI_eq hx5)) (t_ rfl (fun _ => s_neq rfl rfl) (Trc.nil (fun _ => trivial))))))))))) rfl (by decide +kernel) mixed ?_)))))))))
   refine f_if (fun h6 => ?_) (fun h6 => ?_)
   ·exact kT 24 h6 rfl (q_ (a_ (.bool false) rfl (f_nil (f_ret (.tmp rfl (.nil)) rfl))))
   ·exact kF 24 h6 rfl (f_skip (f_inBlock (f_region (p_ rfl (s_add rfl rfl) (m_ (.int .i64 (w64 (v4 + 1))) rfl (f_nil (f_inLoop (f_keep [0, 1, 12, 13] (ih v1 v2 v3 (w64 (v4 + 1)) H)))))))))
  ·exact kF 14 h1 rfl (f_exit rfl (q_ (a_ (.bool true) rfl (f_nil (f_ret (.tmp rfl (.nil)) rfl)))))

theorem sim21 {a0 : Sl} {a1 : Sl} {H : Hp} {p : Bool × Hp} (h : r21 a0 a1 H = some p) : CallSim prog 21 [.sl a0, .sl a1] H (.bool p.1) p.2 := by
 refine callSim (fn := f21) (ret := ret21) func21 rfl Tryz.ntmps21 rfl ?_ h
 unfold r21
 refine q_ (a_ (.bool false) rfl (f_nil (f_seq (q_ (m_ (.sl a0) rfl (p_ rfl (s_lenS rfl underlying25 rfl) (m_ (.sl a1) rfl (p_ rfl (s_lenS rfl underlying25 rfl) (p_ rfl (s_neq rfl rfl) (f_nil ?_))))))))))
 refine f_if (fun h1 => ?_) (fun h1 => ?_)
 ·exact kT 10 h1 rfl (q_ (a_ (.bool false) rfl (f_nil (f_ret (.tmp rfl (.nil)) rfl))))
 ·exact kF 10 h1 rfl (f_skip (f_seq (q_ (m_ (.sl a0) rfl (p_ rfl (s_lenS rfl underlying25 rfl) (m_ (.int .i64 0) rfl (f_nil (f_block (f_loop (f_keep [0, 1, 12, 13] (s21_l0 FUEL a0 a1 (a0.len : Int) 0 H)))))))))))

end Go.Lt.P10
