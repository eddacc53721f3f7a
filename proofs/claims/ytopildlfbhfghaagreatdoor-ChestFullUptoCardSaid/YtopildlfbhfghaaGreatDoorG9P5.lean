/- PRINTED BY A PROGRAM OF OURS: what each function that 'ChestFull' reaches computes on the abstract heap, and that the translated code does just that. Nothing is asked of the input. -/
import Derived.Test.YtopildlfbhfghaaGreatDoorG9P4
set_option linter.unusedVariables false
set_option linter.unusedSimpArgs false
set_option maxRecDepth 100000
set_option maxHeartbeats 4000000
namespace Go.Lt.P10
open Go Go.Lt Go.Proofs Go.Proofs.Tryz
/- 140 congou/congouref10.words -/
theorem ok140 : FnOk prog 140 := ⟨⟨f140, func140, by kernel_rfl, rfl⟩⟩
theorem s140_j3 {app : App} (happ : AppSim prog app) (kt2 : Sl → Sl → Sl → Sl → Int → Int → Hp → Option ((Sl × Sl × Bool) × Hp)) (hkt2 : ∀ (v1 v2 v3 v4 : Sl) (v5 v6 : Int) (H : Hp), Fin prog f140 ret140 96 (todoAt (bodyOf f140) [1, 1, 0, 1, 0, 0, 1, 1, 0, 0, 1, 1, 1, 1, 0, 1, 0, 0] []) [(7, .sl v1), (10, .sl v2), (11, .sl v3), (47, .sl v4), (48, .int .i64 v5), (49, .int .i64 v6)] H (kt2 v1 v2 v3 v4 v5 v6 H)) (v1 v2 v3 : Sl) (v4 v5 : Int) (v6 : Sl) (v7 v8 : Int) (v9 : Bool) (H : Hp) : Fin prog f140 ret140 96 (todoAt (bodyOf f140) [1, 1, 0, 1, 0, 0, 1, 1, 0, 0, 1, 1, 1, 1, 0, 1, 0, 0, 1, 1, 0, 0, 1, 1, 0, 1] []) [(7, .sl v1), (10, .sl v2), (11, .sl v3), (12, .int .i64 v4), (14, .int .i64 v5), (47, .sl v6), (48, .int .i64 v7), (49, .int .i64 v8), (81, .bool v9)] H (r140_j3 app kt2 v1 v2 v3 v4 v5 v6 v7 v8 v9 H) := by
  unfold r140_j3
  refine f_if (fun h1 => ?_) (fun h1 => ?_)
  · exact bT 81 h1 rfl (q_ (a_ (.sl ⟨true, 0, 0, 0, 0, 0⟩) rfl (a_ (.sl ⟨true, 0, 0, 0, 0, 0⟩) rfl (a_ (.bool false) rfl (f_nil (f_ret (.tmp rfl (.tmp rfl (.tmp rfl (.nil)))) rfl))))))
  · refine bF 81 h1 rfl (f_skip (q_ (m_ (.sl v2) rfl (m_ (.int .i64 v4) rfl (p_ rfl (s_add rfl rfl) (o_ck fun g2 => p_ rfl (s_idx underlying22 ty9 rfl rfl g2) (o_bind fun x3 hx3 => p_ rfl (s_load underlying9 rfl rfl (ldStr_eq hx3)) (p_ rfl (s_eqStr rfl rfl) (f_nil ?_)))))))))
    refine f_if (fun h4 => ?_) (fun h4 => ?_)
    · refine bT 87 h4 rfl (f_region (m_ (.sl v3) rfl (m_ (.int .i64 v5) rfl (p_ rfl (s_buildSlice (cs := [.int .i64 v5]) underlying25 ty3 (by decide) (by decide) rfl (by decide) rfl) (o_bind fun x5 hx5 => p_ rfl (s_ap rfl rfl underlying25 underlying25 ty3 rfl rfl rfl rfl rfl rfl rfl hx5) (a_ (.sl x5.1) rfl (f_nil (f_inBlock (f_region (p_ rfl (s_add rfl rfl) (m_ (.int .i64 (w64 (v8 + 1))) rfl (f_nil (f_inLoop ?_)))))))))))))
      exact f_keep [7, 10, 11, 47, 48, 49] (hkt2 v1 v2 x5.1 v6 v7 (w64 (v8 + 1)) x5.2)
    · exact bF 87 h4 rfl (f_skip (f_inBlock (f_region (p_ rfl (s_add rfl rfl) (m_ (.int .i64 (w64 (v8 + 1))) rfl (f_nil (f_inLoop (f_keep [7, 10, 11, 47, 48, 49] (hkt2 v1 v2 v3 v6 v7 (w64 (v8 + 1)) H)))))))))

theorem s140_l2 {app : App} (happ : AppSim prog app) : ∀ (k_ : Nat) (v1 v2 v3 v4 : Sl) (v5 v6 : Int) (H : Hp), Fin prog f140 ret140 96 (todoAt (bodyOf f140) [1, 1, 0, 1, 0, 0, 1, 1, 0, 0, 1, 1, 1, 1, 0, 1, 0, 0] []) [(7, .sl v1), (10, .sl v2), (11, .sl v3), (47, .sl v4), (48, .int .i64 v5), (49, .int .i64 v6)] H (r140_l2 app k_ v1 v2 v3 v4 v5 v6 H) := by
  intro k_
  induction k_ with
  | zero => intro _ _ _ _ _ _ _; exact f_none
  | succ k_ ih =>
    intro v1 v2 v3 v4 v5 v6 H
    rw [r140_l2]
    refine q_ (p_ rfl (s_lss rfl rfl) (f_nil (f_seq ?_)))
    refine f_if (fun h1 => ?_) (fun h1 => ?_)
    · refine kT 50 h1 rfl (f_skip (f_seq (f_block (q_ (m_ (.int .i64 v6) rfl (o_ck fun g2 => p_ rfl (s_idx underlying22 ty9 rfl rfl g2) (o_bind fun x3 hx3 => p_ rfl (s_load underlying9 rfl rfl (ldStr_eq hx3)) (a_ (.int .i64 v6) rfl (a_ (.str x3) rfl (f_nil (f_seq ?_)))))))))))
      refine f_region (m_ (.str x3) rfl (o_bind fun p4 hp4 => p_ rfl (s_callF rfl ok188 (sim188 happ hp4)) (m_ (.tup [.int .i64 p4.1.1, .bool p4.1.2]) rfl (p_ rfl (s_extract (r := .int .i64 p4.1.1) rfl rfl) (p_ rfl (s_extract (r := .bool p4.1.2) rfl rfl) (a_ (.int .i64 p4.1.1) rfl (a_ (.bool p4.1.2) rfl (f_nil (f_seq (q_ (m_ (.sl v2) rfl (m_ (.int .i64 v6) rfl (p_ rfl (s_add rfl rfl) ?_)))))))))))))
      refine o_ck fun g5 => p_ rfl (s_idx underlying22 ty9 rfl rfl g5) (o_bind fun x6 hx6 => p_ rfl (s_load underlying9 rfl rfl (ldStr_eq hx6)) (p_ rfl (s_eqStr rfl rfl) (m_ (.bool (strEq x6 (ByteArray.mk #[78]))) rfl ?_)))
      refine o_if (fun h7 => ?_) (fun h7 => ?_)
      · refine o_know 65 rfl (bool_T h7) (m_ (.str x3) rfl (o_bind fun p8 hp8 => p_ rfl (s_callF rfl ok189 (sim189 happ hp8)) (p_ rfl (s_not rfl) (p_ rfl (s_pickT (v := .bool (!p8.1)) rfl rfl) (m_ (.bool (!p8.1)) rfl ?_)))))
        refine o_if (fun h9 => ?_) (fun h9 => ?_)
        · refine o_know 70 rfl (bool_notT h9) (m_ (.sl v2) rfl (m_ (.int .i64 v6) rfl (p_ rfl (s_add rfl rfl) (o_ck fun g10 => p_ rfl (s_idx underlying22 ty9 rfl rfl g10) (o_bind fun x11 hx11 => p_ rfl (s_load underlying9 rfl rfl (ldStr_eq hx11)) (p_ rfl (s_eqStr rfl rfl) (m_ (.bool (strEq x11 (ByteArray.mk #[49]))) rfl ?_)))))))
          refine o_if (fun h12 => ?_) (fun h12 => ?_)
          · exact o_know 77 rfl (bool_T h12) (m_ (.bool p4.1.2) rfl (p_ rfl (s_not rfl) (p_ rfl (s_pickT (v := .bool (!p4.1.2)) rfl rfl) (p_ rfl (s_pickF (v := .bool (!p4.1.2)) rfl rfl) (f_nil (f_keep [7, 10, 11, 12, 14, 47, 48, 49, 81] (s140_j3 happ _ ih v1 v2 v3 v6 p4.1.1 v4 v5 v6 (!p4.1.2) p8.2)))))))
          · exact o_know 77 rfl (bool_F h12) (no_ rfl (no_ rfl (p_ rfl (s_pickF (v := .bool false) rfl rfl) (p_ rfl (s_pickF (v := .bool false) rfl rfl) (f_nil (f_keep [7, 10, 11, 12, 14, 47, 48, 49, 81] (s140_j3 happ _ ih v1 v2 v3 v6 p4.1.1 v4 v5 v6 false p8.2)))))))
        · exact o_know 70 rfl (bool_notF h9) (no_ rfl (no_ rfl (no_ rfl (no_ rfl (no_ rfl (no_ rfl (no_ rfl (no_ rfl (no_ rfl (no_ rfl (p_ rfl (s_pickT (v := .bool true) rfl rfl) (f_nil (f_keep [7, 10, 11, 12, 14, 47, 48, 49, 81] (s140_j3 happ _ ih v1 v2 v3 v6 p4.1.1 v4 v5 v6 true p8.2))))))))))))))
      · refine o_know 65 rfl (bool_F h7) (no_ rfl (no_ rfl (no_ rfl (p_ rfl (s_pickF (v := .bool false) rfl rfl) (m_ (.bool false) rfl (m_ (.sl v2) rfl (m_ (.int .i64 v6) rfl (p_ rfl (s_add rfl rfl) (o_ck fun g13 => p_ rfl (s_idx underlying22 ty9 rfl rfl g13) (o_bind fun x14 hx14 => p_ rfl (s_load underlying9 rfl rfl (ldStr_eq hx14)) (p_ rfl (s_eqStr rfl rfl) (m_ (.bool (strEq x14 (ByteArray.mk #[49]))) rfl ?_))))))))))))
        refine o_if (fun h15 => ?_) (fun h15 => ?_)
        · exact o_know 77 rfl (bool_T h15) (m_ (.bool p4.1.2) rfl (p_ rfl (s_not rfl) (p_ rfl (s_pickT (v := .bool (!p4.1.2)) rfl rfl) (p_ rfl (s_pickF (v := .bool (!p4.1.2)) rfl rfl) (f_nil (f_keep [7, 10, 11, 12, 14, 47, 48, 49, 81] (s140_j3 happ _ ih v1 v2 v3 v6 p4.1.1 v4 v5 v6 (!p4.1.2) p4.2)))))))
        · exact o_know 77 rfl (bool_F h15) (no_ rfl (no_ rfl (p_ rfl (s_pickF (v := .bool false) rfl rfl) (p_ rfl (s_pickF (v := .bool false) rfl rfl) (f_nil (f_keep [7, 10, 11, 12, 14, 47, 48, 49, 81] (s140_j3 happ _ ih v1 v2 v3 v6 p4.1.1 v4 v5 v6 false p4.2)))))))
    · exact kF 50 h1 rfl (f_exit rfl (q_ (m_ (.sl v1) rfl (m_ (.sl v3) rfl (a_ (.sl v1) rfl (a_ (.sl v3) rfl (a_ (.bool true) rfl (f_nil (f_ret (.tmp rfl (.tmp rfl (.tmp rfl (.nil)))) rfl)))))))))

theorem s140_j1 {app : App} (happ : AppSim prog app) (kt0 : ByteArray → Sl → Sl → Int → Int → Hp → Option ((Sl × Sl × Bool) × Hp)) (hkt0 : ∀ (v1 : ByteArray) (v2 v3 : Sl) (v4 v5 : Int) (H : Hp), Fin prog f140 ret140 96 (todoAt (bodyOf f140) [1, 1, 0, 1, 0, 0] []) [(0, .str v1), (7, .sl v2), (19, .sl v3), (20, .int .i64 v4), (21, .int .i64 v5)] H (kt0 v1 v2 v3 v4 v5 H)) (v1 : ByteArray) (v2 v3 v4 : Sl) (v5 v6 : Int) (v7 : Bool) (H : Hp) : Fin prog f140 ret140 96 (todoAt (bodyOf f140) [1, 1, 0, 1, 0, 0, 1, 1, 0, 0, 1, 1, 0, 1] []) [(0, .str v1), (7, .sl v2), (10, .sl v3), (19, .sl v4), (20, .int .i64 v5), (21, .int .i64 v6), (45, .bool v7)] H (r140_j1 app kt0 v1 v2 v3 v4 v5 v6 v7 H) := by
  unfold r140_j1
  refine f_if (fun h1 => ?_) (fun h1 => ?_)
  · exact bT 45 h1 rfl (f_exit rfl (f_region (p_ rfl (s_add rfl rfl) (m_ (.int .i64 (w64 (v6 + 1))) rfl (f_nil (f_inLoop (f_keep [0, 7, 19, 20, 21] (hkt0 v1 v2 v4 v5 (w64 (v6 + 1)) H))))))))
  · refine bF 45 h1 rfl (f_skip (q_ (a_ (.sl ⟨true, 0, 0, 0, 0, 0⟩) rfl (f_nil (f_seq (q_ (m_ (.sl v2) rfl (o_ck fun g2 => p_ rfl (s_slice underlying22 ty9 rfl rfl rfl g2.1 g2.2) (p_ rfl (s_lenS rfl underlying22 rfl) (m_ (.int .i64 0) rfl (f_nil ?_)))))))))))
    exact f_block (f_loop (f_keep [7, 10, 11, 47, 48, 49] (s140_l2 happ FUEL v2 v3 ⟨true, 0, 0, 0, 0, 0⟩ (v2.cut 1 (1 : Int).toNat ((v2.len : Int) : Int).toNat) ((v2.cut 1 (1 : Int).toNat ((v2.len : Int) : Int).toNat).len : Int) 0 H)))

theorem s140_l0 {app : App} (happ : AppSim prog app) : ∀ (k_ : Nat) (v1 : ByteArray) (v2 v3 : Sl) (v4 v5 : Int) (H : Hp), Fin prog f140 ret140 96 (todoAt (bodyOf f140) [1, 1, 0, 1, 0, 0] []) [(0, .str v1), (7, .sl v2), (19, .sl v3), (20, .int .i64 v4), (21, .int .i64 v5)] H (r140_l0 app k_ v1 v2 v3 v4 v5 H) := by
  intro k_
  induction k_ with
  | zero => intro _ _ _ _ _ _; exact f_none
  | succ k_ ih =>
    intro v1 v2 v3 v4 v5 H
    rw [r140_l0]
    refine q_ (p_ rfl (s_lss rfl rfl) (f_nil (f_seq ?_)))
    refine f_if (fun h1 => ?_) (fun h1 => ?_)
    · refine kT 22 h1 rfl (f_skip (f_seq (f_block (q_ (o_ck fun g2 => p_ rfl (s_idx underlying22 ty9 rfl rfl g2) (o_bind fun x3 hx3 => p_ rfl (s_load underlying9 rfl rfl (ldStr_eq hx3)) (a_ (.str x3) rfl (n_ (m_ (.str x3) rfl ?_)))))))))
      refine o_bind fun p4 hp4 => p_ rfl (s_callF rfl ok52 (sim52 hp4)) (a_ (.sl p4.1) rfl (f_nil (f_seq (f_seq (f_ck fun g5 => f_bind fun x6 hx6 => f_ck fun g7 => f_bind fun x8 hx8 => ?_)))))
      refine f_if (fun h9 => ?_) (fun h9 => ?_)
      · refine f_if (fun h10 => ?_) (fun h10 => ?_)
        · exact f_draw (Φ := fun _ => True) (lim := 1000000) [0, 0, 1, 0, 0, 1, 0, 0, 0, 0, 0, 0, 0, 0, 0, 0, 0, 0, 0] (tm (.sl p4.1) rfl (t_ rfl (fun _ => s_idx underlying22 ty9 rfl rfl g5) (tr rfl (s_load underlying9 rfl rfl (ldStr_eq hx6)) (tm (.sl v2) rfl (t_ rfl (fun _ => s_idx underlying22 ty9 rfl rfl g7) (tr rfl (s_load underlying9 rfl rfl (ldStr_eq hx8)) (t_ rfl (fun _ => s_neStr rfl rfl) (tm (.bool (!(strEq x6 x8))) rfl (Trc.know 34 rfl (bool_notT h9) (tm (.sl p4.1) rfl (t_ rfl (fun _ => s_lenS rfl underlying22 rfl) (tm (.sl v2) rfl (t_ rfl (fun _ => s_lenS rfl underlying22 rfl) (t_ rfl (fun _ => s_neq rfl rfl) (t_ rfl (fun _ => s_pickF (v := .bool (decide ((p4.1.len : Int) ≠ (v2.len : Int)))) rfl rfl) (tm (.bool (decide ((p4.1.len : Int) ≠ (v2.len : Int)))) rfl (Trc.know 41 rfl (dec_true h10) (Trc.no rfl rfl rfl (Trc.no rfl rfl rfl (Trc.no rfl rfl rfl (t_ rfl (fun _ => s_pickT (v := .bool true) rfl rfl) (Trc.nil (fun _ => trivial))))))))))))))))))))))) rfl (by decide +kernel) mixed (f_keep [0, 7, 10, 19, 20, 21, 45] (s140_j1 happ _ ih v1 v2 p4.1 v3 v4 v5 true p4.2))
        · exact f_bind fun p11 hp11 => f_draw (Φ := fun _ => True) (lim := 1000000) [0, 0, 1, 0, 0, 1, 0, 0, 0, 0, 0, 0, 0, 0, 0, 0, 2, 0, 0] (tm (.sl p4.1) rfl (t_ rfl (fun _ => s_idx underlying22 ty9 rfl rfl g5) (tr rfl (s_load underlying9 rfl rfl (ldStr_eq hx6)) (tm (.sl v2) rfl (t_ rfl (fun _ => s_idx underlying22 ty9 rfl rfl g7) (tr rfl (s_load underlying9 rfl rfl (ldStr_eq hx8)) (t_ rfl (fun _ => s_neStr rfl rfl) (tm (.bool (!(strEq x6 x8))) rfl (Trc.know 34 rfl (bool_notT h9) (tm (.sl p4.1) rfl (t_ rfl (fun _ => s_lenS rfl underlying22 rfl) (tm (.sl v2) rfl (t_ rfl (fun _ => s_lenS rfl underlying22 rfl) (t_ rfl (fun _ => s_neq rfl rfl) (t_ rfl (fun _ => s_pickF (v := .bool (decide ((p4.1.len : Int) ≠ (v2.len : Int)))) rfl rfl) (tm (.bool (decide ((p4.1.len : Int) ≠ (v2.len : Int)))) rfl (Trc.know 41 rfl (dec_false h10) (tm (.str v1) rfl (Trc.eff rfl rfl rfl (fun _ => trivial) (s_callF rfl ok187 (sim187 hp11)) (t_ rfl (fun _ => s_not rfl) (t_ rfl (fun _ => s_pickF (v := .bool (!p11.1)) rfl rfl) (Trc.nil (fun _ => trivial))))))))))))))))))))))) rfl (by decide +kernel) mixed (f_keep [0, 7, 10, 19, 20, 21, 45] (s140_j1 happ _ ih v1 v2 p4.1 v3 v4 v5 (!p11.1) p11.2))
      · exact f_draw (Φ := fun _ => True) (lim := 1000000) [0, 0, 1, 0, 0, 1, 0, 0, 0, 0, 0, 0, 0, 0, 0, 0, 0, 0, 0] (tm (.sl p4.1) rfl (t_ rfl (fun _ => s_idx underlying22 ty9 rfl rfl g5) (tr rfl (s_load underlying9 rfl rfl (ldStr_eq hx6)) (tm (.sl v2) rfl (t_ rfl (fun _ => s_idx underlying22 ty9 rfl rfl g7) (tr rfl (s_load underlying9 rfl rfl (ldStr_eq hx8)) (t_ rfl (fun _ => s_neStr rfl rfl) (tm (.bool (!(strEq x6 x8))) rfl (Trc.know 34 rfl (bool_notF h9) (Trc.no rfl rfl rfl (Trc.no rfl rfl rfl (Trc.no rfl rfl rfl (Trc.no rfl rfl rfl (Trc.no rfl rfl rfl (t_ rfl (fun _ => s_pickT (v := .bool true) rfl rfl) (tm (.bool true) rfl (Trc.no rfl rfl rfl (Trc.no rfl rfl rfl (Trc.no rfl rfl rfl (t_ rfl (fun _ => s_pickT (v := .bool true) rfl rfl) (Trc.nil (fun _ => trivial)))))))))))))))))))))) rfl (by decide +kernel) mixed (f_keep [0, 7, 10, 19, 20, 21, 45] (s140_j1 happ _ ih v1 v2 p4.1 v3 v4 v5 true p4.2))
    · exact kF 22 h1 rfl (f_exit rfl (q_ (a_ (.sl ⟨true, 0, 0, 0, 0, 0⟩) rfl (a_ (.sl ⟨true, 0, 0, 0, 0, 0⟩) rfl (a_ (.bool false) rfl (f_nil (f_ret (.tmp rfl (.tmp rfl (.tmp rfl (.nil)))) rfl)))))))

theorem sim140 {app : App} (happ : AppSim prog app) {a0 : ByteArray} {a1 : ByteArray} {H : Hp} {p : (Sl × Sl × Bool) × Hp} (h : r140 app a0 a1 H = some p) : CallSim prog 140 [.str a0, .str a1] H (.tup [.sl p.1.1, .sl p.1.2.1, .bool p.1.2.2]) p.2 := by
  refine callSim (fn := f140) (ret := ret140) func140 rfl Tryz.ntmps140 rfl ?_ h
  unfold r140
  refine q_ (a_ (.sl ⟨true, 0, 0, 0, 0, 0⟩) rfl (a_ (.sl ⟨true, 0, 0, 0, 0, 0⟩) rfl (a_ (.bool false) rfl (n_ (m_ (.str a0) rfl (o_bind fun p1 hp1 => p_ rfl (s_callF rfl ok52 (sim52 hp1)) (a_ (.sl p1.1) rfl (f_nil (f_seq (q_ ?_))))))))))
  exact m_ (.str a1) rfl (o_bind fun p2 hp2 => p_ rfl (s_callF rfl ok52 (sim52 hp2)) (p_ rfl (s_lenS rfl underlying22 rfl) (m_ (.int .i64 0) rfl (f_nil (f_block (f_loop (f_keep [0, 7, 19, 20, 21] (s140_l0 happ FUEL a0 p1.1 p2.1 (p2.1.len : Int) 0 p2.2))))))))

/- 141 congou/congouref10.leaf -/
theorem ok141 : FnOk prog 141 := ⟨⟨f141, func141, by kernel_rfl, rfl⟩⟩
theorem s141_l0 : ∀ (k_ : Nat) (v1 : ByteArray) (v2 : Sl) (v3 v4 : Int) (H : Hp), Fin prog f141 ret141 21 (todoAt (bodyOf f141) [1, 0, 1, 0, 0] []) [(1, .str v1), (8, .sl v2), (9, .int .i64 v3), (10, .int .i64 v4)] H (r141_l0 k_ v1 v2 v3 v4 H) := by
  intro k_
  induction k_ with
  | zero => intro _ _ _ _ _; exact f_none
  | succ k_ ih =>
    intro v1 v2 v3 v4 H
    rw [r141_l0]
    refine q_ (p_ rfl (s_lss rfl rfl) (f_nil (f_seq ?_)))
    refine f_if (fun h1 => ?_) (fun h1 => ?_)
    · refine kT 11 h1 rfl (f_skip (f_seq (f_block (q_ (m_ (.int .i64 v4) rfl (o_ck fun g2 => p_ rfl (s_idx underlying142 ty193 rfl rfl g2) (o_bind fun x3 hx3 => o_bind fun x4 hx4 => p_ rfl (s_loads underlying193 rfl ty193 rfl (lds_cons (ldStr_eq hx3) (lds_cons (ldI_eq hx4) (lds_nil)))) (p_ rfl (s_alloc (zs := [.str (ByteArray.mk #[]), .int .i64 0]) ty193 rfl rfl) (a_ (.int .i64 v4) rfl (o_bind fun H5 hH5 => ?_))))))))))
      refine p_ rfl (s_stores ty193 rfl rfl rfl rfl hH5 (Nat.le_of_eq (sts_mono hH5).symm)) (n_ (p_ rfl (s_fieldAddr underlying193 rfl ty9 rfl) (o_bind fun x6 hx6 => p_ rfl (s_load underlying9 rfl rfl (ldStr_eq hx6)) (m_ (.str v1) rfl (p_ rfl (s_eqStr rfl rfl) (f_nil ?_))))))
      refine f_if (fun h7 => ?_) (fun h7 => ?_)
      · exact bT 18 h7 rfl (q_ (m_ (.int .i64 v4) rfl (a_ (.int .i64 v4) rfl (f_nil (f_ret (.tmp rfl (.nil)) rfl)))))
      · exact bF 18 h7 rfl (f_skip (f_inBlock (f_region (p_ rfl (s_add rfl rfl) (m_ (.int .i64 (w64 (v4 + 1))) rfl (f_nil (f_inLoop (f_keep [1, 8, 9, 10] (ih v1 v2 v3 (w64 (v4 + 1)) H5)))))))))
    · exact kF 11 h1 rfl (f_exit rfl (q_ (a_ (.int .i64 (-1)) rfl (f_nil (f_ret (.tmp rfl (.nil)) rfl)))))

theorem sim141 {a0_0 : Sl} {a0_1 : Sl} {a0_2 : Int} {a0_3 : Int} {a0_4 : Int} {a0_5 : Int} {a0_6 : Sl} {a1 : ByteArray} {H : Hp} {p : Int × Hp} (h : r141 a0_0 a0_1 a0_2 a0_3 a0_4 a0_5 a0_6 a1 H = some p) : CallSim prog 141 [.agg [.sl a0_0, .sl a0_1, .int .i64 a0_2, .int .i64 a0_3, .int .i64 a0_4, .int .i64 a0_5, .sl a0_6], .str a1] H (.int .i64 p.1) p.2 := by
  refine callSim (fn := f141) (ret := ret141) func141 rfl Tryz.ntmps141 rfl ?_ h
  unfold r141
  refine q_ (p_ rfl (s_box (v := .agg [.sl a0_0, .sl a0_1, .int .i64 a0_2, .int .i64 a0_3, .int .i64 a0_4, .int .i64 a0_5, .sl a0_6]) rfl rfl) (a_ (.int .i64 0) rfl (o_hp fun H1 hH1 => f_nil (f_seq (q_ (p_ rfl (s_fieldAddr underlying144 rfl ty142 rfl) (o_bind fun x2 hx2 => p_ rfl (s_load underlying142 rfl rfl (ldSl_eq hx2)) (p_ rfl (s_lenS rfl underlying142 rfl) (m_ (.int .i64 0) rfl (f_nil (f_block ?_)))))))))))
  exact f_loop (f_keep [1, 8, 9, 10] (s141_l0 FUEL a1 x2 (x2.len : Int) 0 H1))

end Go.Lt.P10
