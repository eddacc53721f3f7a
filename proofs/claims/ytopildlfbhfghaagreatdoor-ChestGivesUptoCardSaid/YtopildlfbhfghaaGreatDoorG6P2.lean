/- PRINTED BY A PROGRAM OF OURS: what each function that 'ChestGives' reaches computes on the abstract heap, and that the translated code does just that. Nothing is asked of the input. -/
import Derived.Test.YtopildlfbhfghaaGreatDoorG6P1
set_option linter.unusedVariables false
set_option linter.unusedSimpArgs false
set_option maxRecDepth 100000
set_option maxHeartbeats 4000000
namespace Go.Lt.P10
open Go Go.Lt Go.Proofs Go.Proofs.Tryz
/- 137 slices.Reverse[[]int,int] -/
theorem ok137 : FnOk prog 137 := ⟨⟨f137, func137, by kernel_rfl, rfl⟩⟩
theorem s137_l0 : ∀ (k_ : Nat) (v1 : Sl) (v2 v3 : Int) (H : Hp), Fin prog f137 ret137 28 (todoAt (bodyOf f137) [1, 0, 0] []) [(0, .sl v1), (2, .int .i64 v2), (3, .int .i64 v3)] H (r137_l0 k_ v1 v2 v3 H) := by
 intro k_
 induction k_ with
 | zero => intro _ _ _ _; exact f_none
 | succ k_ ih =>
  intro v1 v2 v3 H
  rw [r137_l0]
  refine f_seq (q_ (m_ (.int .i64 v2) rfl (m_ (.int .i64 v3) rfl (p_ rfl (s_lss rfl rfl) (f_nil ?_)))))
  refine f_if (fun h1 => ?_) (fun h1 => ?_)
  ·refine kT 9 h1 rfl (f_skip (f_seq (f_block (f_ck fun g2 => f_bind fun x3 hx3 => f_ck fun g4 => f_bind fun x5 hx5 => f_ck fun g6 => f_bind fun H7 hH7 => f_ck fun g8 => f_bind fun H9 hH9 => f_draw (Φ := fun _ => True) (lim := 1000000) [0, 0, 0, 0, 0, 0, 0, 1, 0, 0, 0, 1, 0, 2, 0, 2] (tm (.sl v1) rfl (tm (.int .i64 v2) rfl (tm (.sl v1) rfl (tm (.int .i64 v3) rfl (tm (.sl v1) rfl (tm (.int .i64 v3) rfl (t_ rfl (fun _ => s_idx underlying25 ty3 rfl rfl g2) (tr rfl (s_load underlying3 rfl rfl (ldI_eq hx3)) (tm (.sl v1) rfl (tm (.int .i64 v2) rfl (t_ rfl (fun _ => s_idx underlying25 ty3 rfl rfl g4) (tr rfl (s_load underlying3 rfl rfl (ldI_eq hx5)) (t_ rfl (fun _ => s_idx underlying25 ty3 rfl rfl g6) (Trc.eff rfl rfl rfl (fun _ => trivial) (s_store (s := 1) ty3 rfl rfl rfl hH7) (t_ rfl (fun _ => s_idx underlying25 ty3 rfl rfl g8) (Trc.eff rfl rfl rfl (fun _ => trivial) (s_store (s := 1) ty3 rfl rfl rfl hH9) (Trc.nil (fun _ => trivial)))))))))))))))))) rfl (by decide +kernel) mixed (f_inBlock (f_region ?_))))))
   exact m_ (.int .i64 v2) rfl (p_ rfl (s_add rfl rfl) (m_ (.int .i64 v3) rfl (p_ rfl (s_sub rfl rfl) (a_ (.int .i64 (w64 (v2 + 1))) rfl (a_ (.int .i64 (w64 (v3 - 1))) rfl (f_nil (f_inLoop (f_keep [0, 2, 3] (ih v1 (w64 (v2 + 1)) (w64 (v3 - 1)) H9)))))))))
  ·exact kF 9 h1 rfl (f_exit rfl (f_end (.nil) rfl))

theorem sim137 {a0 : Sl} {H : Hp} {p : Unit × Hp} (h : r137 a0 H = some p) : CallSim prog 137 [.sl a0] H (.tup []) p.2 := by
 refine callSim (fn := f137) (ret := ret137) func137 rfl Tryz.ntmps137 rfl ?_ h
 unfold r137
 exact q_ (m_ (.sl a0) rfl (p_ rfl (s_lenS rfl underlying25 rfl) (p_ rfl (s_sub rfl rfl) (a_ (.int .i64 0) rfl (a_ (.int .i64 (w64 ((a0.len : Int) - 1))) rfl (f_nil (f_block (f_loop (f_keep [0, 2, 3] (s137_l0 FUEL a0 0 (w64 ((a0.len : Int) - 1)) H))))))))))

/- 81 (*congou/chest.Chest).way -/
theorem ok81 : FnOk prog 81 := ⟨⟨f81, func81, by kernel_rfl, rfl⟩⟩
theorem s81_l0 : ∀ (k_ v1 v2 : Nat) (v3 : Sl) (v4 : Int) (H : Hp), Fin prog f81 ret81 25 (todoAt (bodyOf f81) [1, 1, 0, 1, 0, 0] []) [(0, .ptr v1 v2), (5, .sl v3), (6, .int .i64 v4)] H (r81_l0 k_ v1 v2 v3 v4 H) := by
 intro k_
 induction k_ with
 | zero => intro _ _ _ _ _; exact f_none
 | succ k_ ih =>
  intro v1 v2 v3 v4 H
  rw [r81_l0]
  refine f_seq (q_ (m_ (.int .i64 v4) rfl (p_ rfl (s_neq rfl rfl) (f_nil ?_))))
  refine f_if (fun h1 => ?_) (fun h1 => ?_)
  ·refine kT 9 h1 rfl (f_skip (f_seq (f_block (f_region (m_ (.sl v3) rfl (m_ (.int .i64 v4) rfl (p_ rfl (s_buildSlice (cs := [.int .i64 v4]) underlying25 ty3 (by decide) (by decide) rfl (by decide) rfl) (o_bind fun x2 hx2 => p_ rfl (s_ap rfl rfl underlying25 underlying25 ty3 rfl rfl rfl rfl rfl rfl rfl hx2) (a_ (.sl x2.1) rfl (f_nil (f_inBlock (f_region (m_ (.ptr v1 v2) rfl ?_)))))))))))))
   exact p_ rfl (s_nilCheck rfl) (p_ rfl (s_fieldAddr underlying118 rfl ty116 rfl) (o_bind fun x3 hx3 => p_ rfl (s_load underlying116 rfl rfl (ldSl_eq hx3)) (m_ (.int .i64 v4) rfl (o_ck fun g4 => p_ rfl (s_idx underlying116 ty120 rfl rfl g4) (p_ rfl (s_fieldAddr underlying120 rfl ty3 rfl) (o_bind fun x5 hx5 => p_ rfl (s_load underlying3 rfl rfl (ldI_eq hx5)) (a_ (.int .i64 x5) rfl (f_nil (f_inLoop (f_keep [0, 5, 6] (ih v1 v2 x2.1 x5 x2.2)))))))))))
  ·exact kF 9 h1 rfl (f_exit rfl (q_ (m_ (.sl v3) rfl (o_bind fun p6 hp6 => p_ rfl (s_callF rfl ok137 (sim137 hp6)) (n_ (m_ (.sl v3) rfl (a_ (.sl v3) rfl (f_nil (f_ret (.tmp rfl (.nil)) rfl)))))))))

theorem sim81 {a0b : Nat} {a0o : Nat} {a1 : Int} {H : Hp} {p : Sl × Hp} (h : r81 a0b a0o a1 H = some p) : CallSim prog 81 [.ptr a0b a0o, .int .i64 a1] H (.sl p.1) p.2 := by
 refine callSim (fn := f81) (ret := ret81) func81 rfl Tryz.ntmps81 rfl ?_ h
 unfold r81
 refine q_ (a_ (.sl ⟨true, 0, 0, 0, 0, 0⟩) rfl (n_ (a_ (.sl ⟨true, 0, 0, 0, 0, 0⟩) rfl (f_nil (f_seq (q_ (m_ (.int .i64 a1) rfl (a_ (.int .i64 a1) rfl (f_nil (f_block (f_loop ?_)))))))))))
 exact f_keep [0, 5, 6] (s81_l0 FUEL a0b a0o ⟨true, 0, 0, 0, 0, 0⟩ a1 H)

/- 75 (*congou/chest.Chest).Back -/
theorem ok75 : FnOk prog 75 := ⟨⟨f75, func75, by kernel_rfl, rfl⟩⟩
theorem s75_l0 : ∀ (k_ v1 v2 : Nat) (v3 v4 : Int) (H : Hp), Fin prog f75 ret75 39 (todoAt (bodyOf f75) [1, 1, 0, 1, 0, 0] []) [(0, .ptr v1 v2), (21, .int .i64 v3), (22, .int .i64 v4)] H (r75_l0 k_ v1 v2 v3 v4 H) := by
 intro k_
 induction k_ with
 | zero => intro _ _ _ _ _; exact f_none
 | succ k_ ih =>
  intro v1 v2 v3 v4 H
  rw [r75_l0]
  refine q_ (p_ rfl (s_lss rfl rfl) (f_nil (f_seq ?_)))
  refine f_if (fun h1 => ?_) (fun h1 => ?_)
  ·refine kT 23 h1 rfl (f_skip (f_seq (f_block (f_bind fun x2 hx2 => f_bind fun x3 hx3 => f_ck fun g4 => f_bind fun x5 hx5 => f_bind fun H6 hH6 => f_draw (Φ := fun _ => True) (lim := 1000000) [0, 0, 0, 0, 1, 0, 0, 0, 1, 0, 0, 1, 0, 0, 2] (tm (.ptr v1 v2) rfl (tm (.ptr v1 v2) rfl (t_ rfl (fun _ => s_nilCheck rfl) (t_ rfl (fun _ => s_fieldAddr underlying118 rfl ty116 rfl) (tr rfl (s_load underlying116 rfl rfl (ldSl_eq hx2)) (tm (.ptr v1 v2) rfl (t_ rfl (fun _ => s_nilCheck rfl) (t_ rfl (fun _ => s_fieldAddr underlying118 rfl ty3 rfl) (tr rfl (s_load underlying3 rfl rfl (ldI_eq hx3)) (t_ rfl (fun _ => s_idx underlying116 ty120 rfl rfl g4) (t_ rfl (fun _ => s_fieldAddr underlying120 rfl ty3 rfl) (tr rfl (s_load underlying3 rfl rfl (ldI_eq hx5)) (t_ rfl (fun _ => s_nilCheck rfl) (t_ rfl (fun _ => s_fieldAddr underlying118 rfl ty3 rfl) (Trc.eff rfl rfl rfl (fun _ => trivial) (s_store (s := 1) ty3 rfl rfl rfl hH6) (Trc.nil (fun _ => trivial))))))))))))))))) rfl (by decide +kernel) mixed (f_inBlock (f_region (p_ rfl (s_add rfl rfl) (m_ (.int .i64 (w64 (v4 + 1))) rfl (f_nil ?_)))))))))
   exact f_inLoop (f_keep [0, 21, 22] (ih v1 v2 v3 (w64 (v4 + 1)) H6))
  ·exact kF 23 h1 rfl (f_exit rfl (q_ (a_ (.int .i64 0) rfl (f_nil (f_ret (.tmp rfl (.nil)) rfl)))))

theorem sim75 {a0b : Nat} {a0o : Nat} {a1 : Int} {H : Hp} {p : Int × Hp} (h : r75 a0b a0o a1 H = some p) : CallSim prog 75 [.ptr a0b a0o, .int .i64 a1] H (.int .i64 p.1) p.2 := by
 refine callSim (fn := f75) (ret := ret75) func75 rfl Tryz.ntmps75 rfl ?_ h
 unfold r75
 refine q_ (a_ (.int .i64 0) rfl (f_nil (f_seq (f_block (q_ (m_ (.ptr a0b a0o) rfl (o_bind fun p1 hp1 => p_ rfl (s_callF rfl ok60 (sim60 hp1)) (a_ (.bool p1.1) rfl (f_nil ?_)))))))))
 refine f_if (fun h2 => ?_) (fun h2 => ?_)
 ·exact bT 5 h2 rfl (q_ (a_ (.int .i64 1) rfl (f_nil (f_ret (.tmp rfl (.nil)) rfl))))
 ·refine bF 5 h2 rfl (q_ (m_ (.int .i64 a1) rfl (p_ rfl (s_lss rfl rfl) (a_ (.bool (decide (a1 < 0))) rfl (f_nil ?_)))))
  refine f_if (fun h3 => ?_) (fun h3 => ?_)
  ·exact kT 8 h3 rfl (q_ (a_ (.int .i64 2) rfl (f_nil (f_ret (.tmp rfl (.nil)) rfl))))
  ·refine kF 8 h3 rfl (q_ (m_ (.int .i64 a1) rfl (m_ (.ptr a0b a0o) rfl (m_ (.ptr a0b a0o) rfl (p_ rfl (s_nilCheck rfl) (p_ rfl (s_fieldAddr underlying118 rfl ty3 rfl) (o_bind fun x4 hx4 => p_ rfl (s_load underlying3 rfl rfl (ldI_eq hx4)) (o_bind fun p5 hp5 => p_ rfl (s_callF rfl ok81 (sim81 hp5)) (p_ rfl (s_lenS rfl underlying25 rfl) (p_ rfl (s_gtr rfl rfl) (a_ (.bool (decide ((p5.1.len : Int) < a1))) rfl ?_)))))))))))
   refine f_nil ?_
   refine f_if (fun h6 => ?_) (fun h6 => ?_)
   ·exact kT 11 h6 rfl (q_ (a_ (.int .i64 4) rfl (f_nil (f_ret (.tmp rfl (.nil)) rfl))))
   ·exact kF 11 h6 rfl (f_skip (f_inBlock (f_seq (q_ (m_ (.int .i64 a1) rfl (m_ (.int .i64 0) rfl (f_nil (f_block (f_loop (f_keep [0, 21, 22] (s75_l0 FUEL a0b a0o a1 0 p5.2)))))))))))

/- 127 (*congou/chest.Chest).fork -/
theorem ok127 : FnOk prog 127 := ⟨⟨f127, func127, by kernel_rfl, rfl⟩⟩
theorem s127_j1 (kt0 : Int → Sl → Sl → Hp → Option ((Int × Sl) × Hp)) (hkt0 : ∀ (v1 : Int) (v2 v3 : Sl) (H : Hp), Fin prog f127 ret127 42 (todoAt (bodyOf f127) [1, 1, 0, 0, 0] []) [(6, .int .i64 v1), (8, .sl v2), (9, .sl v3)] H (kt0 v1 v2 v3 H)) (v1 : Int) (v2 v3 : Sl) (v4 : Bool) (H : Hp) : Fin prog f127 ret127 42 (todoAt (bodyOf f127) [1, 1, 0, 0, 0, 0, 1] []) [(6, .int .i64 v1), (8, .sl v2), (9, .sl v3), (32, .bool v4)] H (r127_j1 kt0 v1 v2 v3 v4 H) := by
 unfold r127_j1
 refine f_if (fun h1 => ?_) (fun h1 => ?_)
 ·refine bT 32 h1 rfl (f_skip (f_block (q_ (m_ (.sl v2) rfl (o_ck fun g2 => p_ rfl (s_idx underlying25 ty3 rfl rfl g2) (o_bind fun x3 hx3 => p_ rfl (s_load underlying3 rfl rfl (ldI_eq hx3)) (a_ (.int .i64 x3) rfl (f_nil (f_ck fun g4 => f_ck fun g5 => f_draw (Φ := fun _ => True) (lim := 1000000) [0, 0, 0, 0, 0, 0] (tm (.sl v2) rfl (t_ rfl (fun _ => s_slice underlying25 ty3 rfl rfl rfl g4.1 g4.2) (tm (.sl v3) rfl (t_ rfl (fun _ => s_slice underlying25 ty3 rfl rfl rfl g5.1 g5.2) (t_ rfl (fun _ => s_as (v := .sl (v2.cut 1 (1 : Int).toNat ((v2.len : Int) : Int).toNat)) rfl) (t_ rfl (fun _ => s_as (v := .sl (v3.cut 1 (1 : Int).toNat ((v3.len : Int) : Int).toNat)) rfl) (Trc.nil (fun _ => trivial)))))))) rfl (by decide +kernel) mixed ?_)))))))))
  exact f_inBlock (f_inLoop (f_keep [6, 8, 9] (hkt0 x3 (v2.cut 1 (1 : Int).toNat ((v2.len : Int) : Int).toNat) (v3.cut 1 (1 : Int).toNat ((v3.len : Int) : Int).toNat) H)))
 ·exact bF 32 h1 rfl (f_exit rfl (q_ (m_ (.int .i64 v1) rfl (m_ (.sl v3) rfl (a_ (.int .i64 v1) rfl (a_ (.sl v3) rfl (f_nil (f_ret (.tmp rfl (.tmp rfl (.nil))) rfl))))))))

theorem s127_l0 : ∀ (k_ : Nat) (v1 : Int) (v2 v3 : Sl) (H : Hp), Fin prog f127 ret127 42 (todoAt (bodyOf f127) [1, 1, 0, 0, 0] []) [(6, .int .i64 v1), (8, .sl v2), (9, .sl v3)] H (r127_l0 k_ v1 v2 v3 H) := by
 intro k_
 induction k_ with
 | zero => intro _ _ _ _; exact f_none
 | succ k_ ih =>
  intro v1 v2 v3 H
  rw [r127_l0]
  refine f_seq (f_seq ?_)
  refine f_if (fun h1 => ?_) (fun h1 => ?_)
  ·refine f_if (fun h2 => ?_) (fun h2 => ?_)
   ·exact f_ck fun g3 => f_bind fun x4 hx4 => f_ck fun g5 => f_bind fun x6 hx6 => f_draw (Φ := fun _ => True) (lim := 1000000) [0, 0, 0, 0, 0, 0, 0, 0, 0, 0, 0, 1, 0, 0, 1, 0, 0] (tm (.sl v2) rfl (t_ rfl (fun _ => s_lenS rfl underlying25 rfl) (t_ rfl (fun _ => s_gtr rfl rfl) (tm (.bool (decide (0 < (v2.len : Int)))) rfl (Trc.know 19 rfl (dec_true h1) (tm (.sl v3) rfl (t_ rfl (fun _ => s_lenS rfl underlying25 rfl) (t_ rfl (fun _ => s_gtr rfl rfl) (t_ rfl (fun _ => s_pickT (v := .bool (decide (0 < (v3.len : Int)))) rfl rfl) (tm (.bool (decide (0 < (v3.len : Int)))) rfl (Trc.know 24 rfl (dec_true h2) (tm (.sl v2) rfl (t_ rfl (fun _ => s_idx underlying25 ty3 rfl rfl g3) (tr rfl (s_load underlying3 rfl rfl (ldI_eq hx4)) (tm (.sl v3) rfl (t_ rfl (fun _ => s_idx underlying25 ty3 rfl rfl g5) (tr rfl (s_load underlying3 rfl rfl (ldI_eq hx6)) (t_ rfl (fun _ => s_eql rfl rfl) (t_ rfl (fun _ => s_pickT (v := .bool (decide (x4 = x6))) rfl rfl) (Trc.nil (fun _ => trivial))))))))))))))))))))) rfl (by decide +kernel) mixed (f_keep [6, 8, 9, 32] (s127_j1 _ ih v1 v2 v3 (decide (x4 = x6)) H))
   ·exact f_draw (Φ := fun _ => True) (lim := 1000000) [0, 0, 0, 0, 0, 0, 0, 0, 0, 0, 0, 0, 0, 0, 0, 0, 0] (tm (.sl v2) rfl (t_ rfl (fun _ => s_lenS rfl underlying25 rfl) (t_ rfl (fun _ => s_gtr rfl rfl) (tm (.bool (decide (0 < (v2.len : Int)))) rfl (Trc.know 19 rfl (dec_true h1) (tm (.sl v3) rfl (t_ rfl (fun _ => s_lenS rfl underlying25 rfl) (t_ rfl (fun _ => s_gtr rfl rfl) (t_ rfl (fun _ => s_pickT (v := .bool (decide (0 < (v3.len : Int)))) rfl rfl) (tm (.bool (decide (0 < (v3.len : Int)))) rfl (Trc.know 24 rfl (dec_false h2) (Trc.no rfl rfl rfl (Trc.no rfl rfl rfl (Trc.no rfl rfl rfl (Trc.no rfl rfl rfl (Trc.no rfl rfl rfl (Trc.no rfl rfl rfl (Trc.no rfl rfl rfl (t_ rfl (fun _ => s_pickF (v := .bool false) rfl rfl) (Trc.nil (fun _ => trivial))))))))))))))))))))) rfl (by decide +kernel) mixed (f_keep [6, 8, 9, 32] (s127_j1 _ ih v1 v2 v3 false H))
  ·exact f_draw (Φ := fun _ => True) (lim := 1000000) [0, 0, 0, 0, 0, 0, 0, 0, 0, 0, 0, 0, 0, 0, 0, 0, 0] (tm (.sl v2) rfl (t_ rfl (fun _ => s_lenS rfl underlying25 rfl) (t_ rfl (fun _ => s_gtr rfl rfl) (tm (.bool (decide (0 < (v2.len : Int)))) rfl (Trc.know 19 rfl (dec_false h1) (Trc.no rfl rfl rfl (Trc.no rfl rfl rfl (Trc.no rfl rfl rfl (t_ rfl (fun _ => s_pickF (v := .bool false) rfl rfl) (tm (.bool false) rfl (Trc.no rfl rfl rfl (Trc.no rfl rfl rfl (Trc.no rfl rfl rfl (Trc.no rfl rfl rfl (Trc.no rfl rfl rfl (Trc.no rfl rfl rfl (Trc.no rfl rfl rfl (t_ rfl (fun _ => s_pickF (v := .bool false) rfl rfl) (Trc.nil (fun _ => trivial)))))))))))))))))))) rfl (by decide +kernel) mixed (f_keep [6, 8, 9, 32] (s127_j1 _ ih v1 v2 v3 false H))

theorem sim127 {a0b : Nat} {a0o : Nat} {a1 : Int} {a2 : Int} {H : Hp} {p : (Int × Sl) × Hp} (h : r127 a0b a0o a1 a2 H = some p) : CallSim prog 127 [.ptr a0b a0o, .int .i64 a1, .int .i64 a2] H (.tup [.int .i64 p.1.1, .sl p.1.2]) p.2 := by
 refine callSim (fn := f127) (ret := ret127) func127 rfl Tryz.ntmps127 rfl ?_ h
 unfold r127
 refine q_ (a_ (.int .i64 0) rfl (a_ (.sl ⟨true, 0, 0, 0, 0, 0⟩) rfl (n_ (m_ (.ptr a0b a0o) rfl (m_ (.int .i64 a1) rfl (o_bind fun p1 hp1 => p_ rfl (s_callF rfl ok81 (sim81 hp1)) (m_ (.ptr a0b a0o) rfl (m_ (.int .i64 a2) rfl (o_bind fun p2 hp2 => p_ rfl (s_callF rfl ok81 (sim81 hp2)) (a_ (.sl p1.1) rfl ?_))))))))))
 exact a_ (.sl p2.1) rfl (f_nil (f_seq (f_block (f_loop (f_keep [6, 8, 9] (s127_l0 FUEL 0 p1.1 p2.1 p2.2))))))

/- 76 (*congou/chest.Chest).Move -/
theorem ok76 : FnOk prog 76 := ⟨⟨f76, func76, by kernel_rfl, rfl⟩⟩
theorem s76_l0 {app : App} (happ : AppSim prog app) : ∀ (k_ v1 v2 : Nat) (v3 : Int) (v4 : Sl) (v5 v6 : Int) (H : Hp), Fin prog f76 ret76 57 (todoAt (bodyOf f76) [1, 1, 1, 1, 0, 1, 0, 0] []) [(0, .ptr v1 v2), (8, .int .i64 v3), (32, .sl v4), (33, .int .i64 v5), (34, .int .i64 v6)] H (r76_l0 app k_ v1 v2 v3 v4 v5 v6 H) := by
 intro k_
 induction k_ with
 | zero => intro _ _ _ _ _ _ _; exact f_none
 | succ k_ ih =>
  intro v1 v2 v3 v4 v5 v6 H
  rw [r76_l0]
  refine q_ (p_ rfl (s_lss rfl rfl) (f_nil (f_seq ?_)))
  refine f_if (fun h1 => ?_) (fun h1 => ?_)
  ·refine kT 35 h1 rfl (f_skip (f_seq (f_block (q_ (o_ck fun g2 => p_ rfl (s_idx underlying25 ty3 rfl rfl g2) (o_bind fun x3 hx3 => p_ rfl (s_load underlying3 rfl rfl (ldI_eq hx3)) (a_ (.int .i64 x3) rfl (n_ (m_ (.ptr v1 v2) rfl ?_)))))))))
   refine m_ (.ptr v1 v2) rfl (p_ rfl (s_nilCheck rfl) (p_ rfl (s_fieldAddr underlying118 rfl ty116 rfl) (o_bind fun x4 hx4 => p_ rfl (s_load underlying116 rfl rfl (ldSl_eq hx4)) (m_ (.int .i64 x3) rfl (o_ck fun g5 => p_ rfl (s_idx underlying116 ty120 rfl rfl g5) (p_ rfl (s_fieldAddr underlying120 rfl ty9 rfl) (o_bind fun x6 hx6 => p_ rfl (s_load underlying9 rfl rfl (ldStr_eq hx6)) (o_bind fun p7 hp7 => p_ rfl (s_callF rfl ok20 (sim20 happ hp7)) (m_ (.tup [.str p7.1.1, .int .i64 p7.1.2]) rfl (p_ rfl (s_extract (r := .str p7.1.1) rfl rfl) (p_ rfl (s_extract (r := .int .i64 p7.1.2) rfl rfl) ?_)))))))))))
   refine a_ (.str p7.1.1) rfl (a_ (.int .i64 p7.1.2) rfl (n_ (m_ (.int .i64 p7.1.2) rfl (p_ rfl (s_eql rfl rfl) (f_nil ?_)))))
   refine f_if (fun h8 => ?_) (fun h8 => ?_)
   ·exact kT 52 h8 rfl (f_region (m_ (.int .i64 v3) rfl (p_ rfl (s_add rfl rfl) (a_ (.int .i64 (w64 (v3 + 1))) rfl (f_nil (f_inBlock (f_region (p_ rfl (s_add rfl rfl) (m_ (.int .i64 (w64 (v6 + 1))) rfl (f_nil (f_inLoop (f_keep [0, 8, 32, 33, 34] (ih v1 v2 (w64 (v3 + 1)) v4 v5 (w64 (v6 + 1)) p7.2)))))))))))))
   ·exact kF 52 h8 rfl (f_skip (f_inBlock (f_region (p_ rfl (s_add rfl rfl) (m_ (.int .i64 (w64 (v6 + 1))) rfl (f_nil (f_inLoop (f_keep [0, 8, 32, 33, 34] (ih v1 v2 v3 v4 v5 (w64 (v6 + 1)) p7.2)))))))))
  ·exact kF 35 h1 rfl (f_exit rfl (q_ (m_ (.int .i64 v3) rfl (a_ (.int .i64 v3) rfl (a_ (.int .i64 0) rfl (f_nil (f_ret (.tmp rfl (.tmp rfl (.nil))) rfl)))))))

theorem sim76 {app : App} (happ : AppSim prog app) {a0b : Nat} {a0o : Nat} {a1 : Int} {H : Hp} {p : (Int × Int) × Hp} (h : r76 app a0b a0o a1 H = some p) : CallSim prog 76 [.ptr a0b a0o, .int .i64 a1] H (.tup [.int .i64 p.1.1, .int .i64 p.1.2]) p.2 := by
 refine callSim (fn := f76) (ret := ret76) func76 rfl Tryz.ntmps76 rfl ?_ h
 unfold r76
 refine q_ (a_ (.int .i64 0) rfl (a_ (.int .i64 0) rfl (f_nil (f_seq (f_block (q_ (m_ (.ptr a0b a0o) rfl (o_bind fun p1 hp1 => p_ rfl (s_callF rfl ok60 (sim60 hp1)) (a_ (.bool p1.1) rfl (f_nil ?_))))))))))
 refine f_if (fun h2 => ?_) (fun h2 => ?_)
 ·exact bT 13 h2 rfl (q_ (a_ (.int .i64 0) rfl (a_ (.int .i64 1) rfl (f_nil (f_ret (.tmp rfl (.tmp rfl (.nil))) rfl)))))
 ·refine bF 13 h2 rfl (q_ (m_ (.ptr a0b a0o) rfl (m_ (.int .i64 a1) rfl (p_ rfl (s_buildSlice (cs := [.int .i64 a1]) underlying25 ty3 (by decide) (by decide) rfl (by decide) rfl) (o_bind fun p3 hp3 => p_ rfl (s_callF rfl ok79 (sim79 happ hp3)) (p_ rfl (s_not rfl) (a_ (.bool (!p3.1)) rfl (f_nil ?_))))))))
  refine f_if (fun h4 => ?_) (fun h4 => ?_)
  ·refine f_know 16 rfl (bool_notT h4) (f_condF rfl (f_skip (f_inBlock (q_ (m_ (.ptr a0b a0o) rfl (m_ (.ptr a0b a0o) rfl (p_ rfl (s_nilCheck rfl) (p_ rfl (s_fieldAddr underlying118 rfl ty3 rfl) (o_bind fun x5 hx5 => p_ rfl (s_load underlying3 rfl rfl (ldI_eq hx5)) (m_ (.int .i64 a1) rfl (o_bind fun p6 hp6 => p_ rfl (s_callF rfl ok127 (sim127 hp6)) (m_ (.tup [.int .i64 p6.1.1, .sl p6.1.2]) rfl ?_))))))))))))
   refine p_ rfl (s_extract (r := .int .i64 p6.1.1) rfl rfl) (p_ rfl (s_extract (r := .sl p6.1.2) rfl rfl) (a_ (.int .i64 p6.1.1) rfl (a_ (.sl p6.1.2) rfl (n_ (a_ (.int .i64 0) rfl (f_nil (f_seq (q_ (m_ (.sl p6.1.2) rfl (p_ rfl (s_lenS rfl underlying25 rfl) (m_ (.int .i64 0) rfl (f_nil ?_))))))))))))
   exact f_block (f_loop (f_keep [0, 8, 32, 33, 34] (s76_l0 happ FUEL a0b a0o 0 p6.1.2 (p6.1.2.len : Int) 0 p6.2)))
  ·exact f_know 16 rfl (bool_notF h4) (f_condT rfl (q_ (a_ (.int .i64 0) rfl (a_ (.int .i64 2) rfl (f_nil (f_ret (.tmp rfl (.tmp rfl (.nil))) rfl))))))

/- 30 congou/congoulaw10.played -/
theorem ok30 : FnOk prog 30 := ⟨⟨f30, func30, by kernel_rfl, rfl⟩⟩
theorem s30_l0 {app : App} (happ : AppSim prog app) : ∀ (k_ v1 v2 : Nat) (v3 : Sl) (v4 v5 : Int) (H : Hp), Fin prog f30 ret30 45 (todoAt (bodyOf f30) [1, 1, 0, 1, 0, 0] []) [(3, .ptr v1 v2), (11, .sl v3), (12, .int .i64 v4), (13, .int .i64 v5)] H (r30_l0 app k_ v1 v2 v3 v4 v5 H) := by
 intro k_
 induction k_ with
 | zero => intro _ _ _ _ _ _; exact f_none
 | succ k_ ih =>
  intro v1 v2 v3 v4 v5 H
  rw [r30_l0]
  refine q_ (p_ rfl (s_lss rfl rfl) (f_nil (f_seq ?_)))
  refine f_if (fun h1 => ?_) (fun h1 => ?_)
  ·refine kT 14 h1 rfl (f_skip (f_seq (f_block (q_ (o_ck fun g2 => p_ rfl (s_idx underlying67 ty133 rfl rfl g2) (o_bind fun x3 hx3 => o_bind fun x4 hx4 => o_bind fun x5 hx5 => o_bind fun x6 hx6 => p_ rfl (s_loads underlying133 rfl ty133 rfl (lds_cons (ldI_eq hx3) (lds_cons (ldI_eq hx4) (lds_cons (ldI_eq hx5) (lds_cons (ldStr_eq hx6) (lds_nil)))))) (p_ rfl (s_alloc (zs := [.int .i64 0, .int .i64 0, .int .i64 0, .str (ByteArray.mk #[])]) ty133 rfl rfl) (o_bind fun H7 hH7 => ?_))))))))
   refine p_ rfl (s_stores ty133 rfl rfl rfl rfl hH7 (Nat.le_of_eq (sts_mono hH7).symm)) (n_ (p_ rfl (s_fieldAddr underlying133 rfl ty3 rfl) (o_bind fun x8 hx8 => p_ rfl (s_load underlying3 rfl rfl (ldI_eq hx8)) (f_nil (f_block (q_ (p_ rfl (s_eql rfl rfl) (a_ (.bool (decide (x8 = 0))) rfl (f_nil ?_)))))))))
   refine f_if (fun h9 => ?_) (fun h9 => ?_)
   ·refine kT 19 h9 rfl (f_region (m_ (.ptr v1 v2) rfl (p_ rfl (s_fieldAddr underlying133 rfl ty9 rfl) (o_bind fun x10 hx10 => p_ rfl (s_load underlying9 rfl rfl (ldStr_eq hx10)) (o_bind fun p11 hp11 => p_ rfl (s_callF rfl ok20 (sim20 happ hp11)) (f_nil (f_inBlock (f_inBlock (f_region (p_ rfl (s_add rfl rfl) (m_ (.int .i64 (w64 (v5 + 1))) rfl (f_nil ?_))))))))))))
    exact f_inLoop (f_keep [3, 11, 12, 13] (ih v1 v2 v3 v4 (w64 (v5 + 1)) p11.2))
   ·refine kF 19 h9 rfl (q_ (p_ rfl (s_eql rfl rfl) (a_ (.bool (decide (x8 = 2))) rfl (f_nil ?_))))
    refine f_if (fun h12 => ?_) (fun h12 => ?_)
    ·refine kT 25 h12 rfl (f_region (m_ (.ptr v1 v2) rfl (p_ rfl (s_fieldAddr underlying133 rfl ty3 rfl) (o_bind fun x13 hx13 => p_ rfl (s_load underlying3 rfl rfl (ldI_eq hx13)) (o_bind fun p14 hp14 => p_ rfl (s_callF rfl ok40 (sim40 happ hp14)) (f_nil (f_inBlock (f_inBlock (f_region (p_ rfl (s_add rfl rfl) (m_ (.int .i64 (w64 (v5 + 1))) rfl (f_nil ?_))))))))))))
     exact f_inLoop (f_keep [3, 11, 12, 13] (ih v1 v2 v3 v4 (w64 (v5 + 1)) p14.2))
    ·refine kF 25 h12 rfl (q_ (p_ rfl (s_eql rfl rfl) (a_ (.bool (decide (x8 = 3))) rfl (f_nil ?_))))
     refine f_if (fun h15 => ?_) (fun h15 => ?_)
     ·refine kT 31 h15 rfl (f_region (m_ (.ptr v1 v2) rfl (p_ rfl (s_fieldAddr underlying133 rfl ty3 rfl) (o_bind fun x16 hx16 => p_ rfl (s_load underlying3 rfl rfl (ldI_eq hx16)) (o_bind fun p17 hp17 => p_ rfl (s_callF rfl ok75 (sim75 hp17)) (f_nil (f_inBlock (f_inBlock (f_region (p_ rfl (s_add rfl rfl) (m_ (.int .i64 (w64 (v5 + 1))) rfl (f_nil ?_))))))))))))
      exact f_inLoop (f_keep [3, 11, 12, 13] (ih v1 v2 v3 v4 (w64 (v5 + 1)) p17.2))
     ·refine kF 31 h15 rfl (q_ (p_ rfl (s_eql rfl rfl) (a_ (.bool (decide (x8 = 5))) rfl (f_nil ?_))))
      refine f_if (fun h18 => ?_) (fun h18 => ?_)
      ·refine kT 37 h18 rfl (f_region (m_ (.ptr v1 v2) rfl (p_ rfl (s_fieldAddr underlying133 rfl ty3 rfl) (o_bind fun x19 hx19 => p_ rfl (s_load underlying3 rfl rfl (ldI_eq hx19)) (o_bind fun p20 hp20 => p_ rfl (s_callF rfl ok76 (sim76 happ hp20)) (f_nil (f_inBlock (f_inBlock (f_region (p_ rfl (s_add rfl rfl) (m_ (.int .i64 (w64 (v5 + 1))) rfl (f_nil ?_))))))))))))
       exact f_inLoop (f_keep [3, 11, 12, 13] (ih v1 v2 v3 v4 (w64 (v5 + 1)) p20.2))
      ·exact kF 37 h18 rfl (f_skip (f_inBlock (f_inBlock (f_region (p_ rfl (s_add rfl rfl) (m_ (.int .i64 (w64 (v5 + 1))) rfl (f_nil (f_inLoop (f_keep [3, 11, 12, 13] (ih v1 v2 v3 v4 (w64 (v5 + 1)) H7))))))))))
  ·exact kF 14 h1 rfl (f_exit rfl (q_ (m_ (.ptr v1 v2) rfl (a_ (.ptr v1 v2) rfl (f_nil (f_ret (.tmp rfl (.nil)) rfl))))))

theorem sim30 {app : App} (happ : AppSim prog app) {a0 : Sl} {H : Hp} {p : (Nat × Nat) × Hp} (h : r30 app a0 H = some p) : CallSim prog 30 [.sl a0] H (.ptr p.1.1 p.1.2) p.2 := by
 refine callSim (fn := f30) (ret := ret30) func30 rfl Tryz.ntmps30 rfl ?_ h
 unfold r30
 refine q_ (a_ (.nilptr) rfl (n_ (o_bind fun p1 hp1 => p_ rfl (s_callF rfl ok47 (sim47 hp1)) (a_ (.ptr p1.1.1 p1.1.2) rfl (f_nil (f_seq (q_ (m_ (.sl a0) rfl (m_ (.sl a0) rfl (p_ rfl (s_lenS rfl underlying67 rfl) ?_))))))))))
 exact p_ rfl (s_min2 rfl rfl) (o_ck fun g2 => p_ rfl (s_slice underlying67 ty133 rfl rfl rfl g2.1 g2.2) (p_ rfl (s_lenS rfl underlying67 rfl) (m_ (.int .i64 0) rfl (f_nil (f_block (f_loop (f_keep [3, 11, 12, 13] (s30_l0 happ FUEL p1.1.1 p1.1.2 (a0.cut 4 (0 : Int).toNat ((if 60 < (a0.len : Int) then 60 else (a0.len : Int)) : Int).toNat) ((a0.cut 4 (0 : Int).toNat ((if 60 < (a0.len : Int) then 60 else (a0.len : Int)) : Int).toNat).len : Int) 0 p1.2))))))))

/- 133 (*congou/chest.state).names -/
theorem ok133 : FnOk prog 133 := ⟨⟨f133, func133, by kernel_rfl, rfl⟩⟩
theorem s133_l0 : ∀ (k_ v1 v2 : Nat) (v3 v4 : Sl) (v5 v6 : Int) (H : Hp), Fin prog f133 ret133 27 (todoAt (bodyOf f133) [1, 1, 0, 1, 0, 0] []) [(0, .ptr v1 v2), (5, .sl v3), (8, .sl v4), (9, .int .i64 v5), (10, .int .i64 v6)] H (r133_l0 k_ v1 v2 v3 v4 v5 v6 H) := by
 intro k_
 induction k_ with
 | zero => intro _ _ _ _ _ _ _; exact f_none
 | succ k_ ih =>
  intro v1 v2 v3 v4 v5 v6 H
  rw [r133_l0]
  refine q_ (p_ rfl (s_lss rfl rfl) (f_nil (f_seq ?_)))
  refine f_if (fun h1 => ?_) (fun h1 => ?_)
  ·refine kT 11 h1 rfl (f_skip (f_seq (f_block (q_ (o_ck fun g2 => p_ rfl (s_idx underlying25 ty3 rfl rfl g2) (o_bind fun x3 hx3 => p_ rfl (s_load underlying3 rfl rfl (ldI_eq hx3)) (a_ (.int .i64 x3) rfl (f_nil (f_region (m_ (.sl v3) rfl (m_ (.ptr v1 v2) rfl ?_)))))))))))
   refine p_ rfl (s_nilCheck rfl) (p_ rfl (s_fieldAddr underlying150 rfl ty147 rfl) (o_bind fun x4 hx4 => p_ rfl (s_load underlying147 rfl rfl (ldSl_eq hx4)) (m_ (.int .i64 x3) rfl (o_ck fun g5 => p_ rfl (s_idx underlying147 ty186 rfl rfl g5) (p_ rfl (s_fieldAddr underlying186 rfl ty9 rfl) (o_bind fun x6 hx6 => p_ rfl (s_load underlying9 rfl rfl (ldStr_eq hx6)) (p_ rfl (s_buildSlice (cs := [.str x6]) underlying22 ty9 (by decide) (by decide) rfl (by decide) rfl) (o_bind fun x7 hx7 => p_ rfl (s_ap rfl rfl underlying22 underlying22 ty9 rfl rfl rfl rfl rfl rfl rfl hx7) (a_ (.sl x7.1) rfl (f_nil (f_inBlock ?_)))))))))))
   exact f_region (p_ rfl (s_add rfl rfl) (m_ (.int .i64 (w64 (v6 + 1))) rfl (f_nil (f_inLoop (f_keep [0, 5, 8, 9, 10] (ih v1 v2 x7.1 v4 v5 (w64 (v6 + 1)) x7.2))))))
  ·exact kF 11 h1 rfl (f_exit rfl (q_ (m_ (.sl v3) rfl (a_ (.sl v3) rfl (f_nil (f_ret (.tmp rfl (.nil)) rfl))))))

theorem sim133 {a0b : Nat} {a0o : Nat} {a1 : Sl} {H : Hp} {p : Sl × Hp} (h : r133 a0b a0o a1 H = some p) : CallSim prog 133 [.ptr a0b a0o, .sl a1] H (.sl p.1) p.2 := by
 refine callSim (fn := f133) (ret := ret133) func133 rfl Tryz.ntmps133 rfl ?_ h
 unfold r133
 refine q_ (a_ (.sl ⟨true, 0, 0, 0, 0, 0⟩) rfl (n_ (a_ (.sl ⟨true, 0, 0, 0, 0, 0⟩) rfl (f_nil (f_seq (q_ (m_ (.sl a1) rfl (p_ rfl (s_lenS rfl underlying25 rfl) (m_ (.int .i64 0) rfl (f_nil (f_block ?_)))))))))))
 exact f_loop (f_keep [0, 5, 8, 9, 10] (s133_l0 FUEL a0b a0o ⟨true, 0, 0, 0, 0, 0⟩ a1 (a1.len : Int) 0 H))

/- 134 congou/chest.numbers -/
theorem ok134 : FnOk prog 134 := ⟨⟨f134, func134, by kernel_rfl, rfl⟩⟩
theorem s134_l0 {app : App} (happ : AppSim prog app) : ∀ (k_ : Nat) (v1 v2 : Sl) (v3 v4 : Int) (H : Hp), Fin prog f134 ret134 19 (todoAt (bodyOf f134) [1, 1, 0, 1, 0, 0] []) [(3, .sl v1), (6, .sl v2), (7, .int .i64 v3), (8, .int .i64 v4)] H (r134_l0 app k_ v1 v2 v3 v4 H) := by
 intro k_
 induction k_ with
 | zero => intro _ _ _ _ _; exact f_none
 | succ k_ ih =>
  intro v1 v2 v3 v4 H
  rw [r134_l0]
  refine q_ (p_ rfl (s_lss rfl rfl) (f_nil (f_seq ?_)))
  refine f_if (fun h1 => ?_) (fun h1 => ?_)
  ·refine kT 9 h1 rfl (f_skip (f_seq (f_block (q_ (o_ck fun g2 => p_ rfl (s_idx underlying25 ty3 rfl rfl g2) (o_bind fun x3 hx3 => p_ rfl (s_load underlying3 rfl rfl (ldI_eq hx3)) (a_ (.int .i64 x3) rfl (f_nil (f_region (m_ (.sl v1) rfl (m_ (.int .i64 x3) rfl ?_)))))))))))
   refine o_bind fun p4 hp4 => o_bind fun x5 hx5 => p_ rfl (s_callA happ rfl hp4) (o_know 14 rfl (asStr_eq hx5) (p_ rfl (s_buildSlice (cs := [.str x5]) underlying22 ty9 (by decide) (by decide) rfl (by decide) rfl) (o_bind fun x6 hx6 => p_ rfl (s_ap rfl rfl underlying22 underlying22 ty9 rfl rfl rfl rfl rfl rfl rfl hx6) (a_ (.sl x6.1) rfl (f_nil (f_inBlock (f_region (p_ rfl (s_add rfl rfl) (m_ (.int .i64 (w64 (v4 + 1))) rfl (f_nil (f_inLoop (f_keep [3, 6, 7, 8] ?_))))))))))))
   exact ih x6.1 v2 v3 (w64 (v4 + 1)) x6.2
  ·exact kF 9 h1 rfl (f_exit rfl (q_ (m_ (.sl v1) rfl (a_ (.sl v1) rfl (f_nil (f_ret (.tmp rfl (.nil)) rfl))))))

theorem sim134 {app : App} (happ : AppSim prog app) {a0 : Sl} {H : Hp} {p : Sl × Hp} (h : r134 app a0 H = some p) : CallSim prog 134 [.sl a0] H (.sl p.1) p.2 := by
 refine callSim (fn := f134) (ret := ret134) func134 rfl Tryz.ntmps134 rfl ?_ h
 unfold r134
 refine q_ (a_ (.sl ⟨true, 0, 0, 0, 0, 0⟩) rfl (n_ (a_ (.sl ⟨true, 0, 0, 0, 0, 0⟩) rfl (f_nil (f_seq (q_ (m_ (.sl a0) rfl (p_ rfl (s_lenS rfl underlying25 rfl) (m_ (.int .i64 0) rfl (f_nil (f_block ?_)))))))))))
 exact f_loop (f_keep [3, 6, 7, 8] (s134_l0 happ FUEL ⟨true, 0, 0, 0, 0, 0⟩ a0 (a0.len : Int) 0 H))

/- 186 slices.Grow[[]int,int] -/
theorem ok186 : FnOk prog 186 := ⟨⟨f186, func186, by kernel_rfl, rfl⟩⟩
theorem sim186 {a0 : Sl} {a1 : Int} {H : Hp} {p : Sl × Hp} (h : r186 a0 a1 H = some p) : CallSim prog 186 [.sl a0, .int .i64 a1] H (.sl p.1) p.2 := by
 refine callSim (fn := f186) (ret := ret186) func186 rfl Tryz.ntmps186 rfl ?_ h
 unfold r186
 refine q_ (a_ (.sl ⟨true, 0, 0, 0, 0, 0⟩) rfl (f_nil (f_seq (q_ (m_ (.int .i64 a1) rfl (p_ rfl (s_lss rfl rfl) (f_nil ?_)))))))
 refine f_if (fun h1 => ?_) (fun h1 => ?_)
 ·exact kT 6 h1 rfl (f_region (o_none))
 ·refine kF 6 h1 rfl (f_skip (f_seq (q_ (m_ (.int .i64 a1) rfl (m_ (.sl a0) rfl (o_ck fun g2 => p_ rfl (s_capS rfl underlying25 rfl g2) (m_ (.sl a0) rfl (p_ rfl (s_lenS rfl underlying25 rfl) (p_ rfl (s_sub rfl rfl) (p_ rfl (s_sub rfl rfl) (a_ (.int .i64 (w64 (a1 - (w64 ((a0.cap : Int) - (a0.len : Int)))))) rfl (f_nil ?_))))))))))))
  refine q_ (m_ (.int .i64 (w64 (a1 - (w64 ((a0.cap : Int) - (a0.len : Int)))))) rfl (p_ rfl (s_gtr rfl rfl) (f_nil ?_)))
  refine f_if (fun h3 => ?_) (fun h3 => ?_)
  ·refine kT 16 h3 rfl (f_region (m_ (.sl a0) rfl (m_ (.sl a0) rfl (o_ck fun g4 => p_ rfl (s_capS rfl underlying25 rfl g4) (o_ck fun g5 => p_ rfl (s_slice underlying25 ty3 rfl rfl rfl g5.1 g5.2) (m_ (.int .i64 (w64 (a1 - (w64 ((a0.cap : Int) - (a0.len : Int)))))) rfl (o_ck fun g6 => o_ck fun g7 => p_ rfl (s_appendMk0 rfl rfl rfl underlying25 underlying3 ty3 rfl rfl (by decide) (by decide) rfl rfl g6 g7) (m_ (.sl a0) rfl (p_ rfl (s_lenS rfl underlying25 rfl) (o_ck fun g8 => ?_))))))))))
   exact p_ rfl (s_slice underlying25 ty3 rfl rfl rfl g8.1 g8.2) (a_ (.sl ((⟨false, H.n, 0, (w64 (a1 - (w64 ((a0.cap : Int) - (a0.len : Int)))) : Int).toNat, (w64 (a1 - (w64 ((a0.cap : Int) - (a0.len : Int)))) : Int).toNat, 1⟩ : Sl).cut 1 (0 : Int).toNat ((a0.len : Int) : Int).toNat)) rfl (o_hp fun H9 hH9 => n_ (m_ (.sl ((⟨false, H.n, 0, (w64 (a1 - (w64 ((a0.cap : Int) - (a0.len : Int)))) : Int).toNat, (w64 (a1 - (w64 ((a0.cap : Int) - (a0.len : Int)))) : Int).toNat, 1⟩ : Sl).cut 1 (0 : Int).toNat ((a0.len : Int) : Int).toNat)) rfl (a_ (.sl ((⟨false, H.n, 0, (w64 (a1 - (w64 ((a0.cap : Int) - (a0.len : Int)))) : Int).toNat, (w64 (a1 - (w64 ((a0.cap : Int) - (a0.len : Int)))) : Int).toNat, 1⟩ : Sl).cut 1 (0 : Int).toNat ((a0.len : Int) : Int).toNat)) rfl (f_nil (f_ret (.tmp rfl (.nil)) rfl))))))
  ·exact kF 16 h3 rfl (f_skip (q_ (m_ (.sl a0) rfl (a_ (.sl a0) rfl (f_nil (f_ret (.tmp rfl (.nil)) rfl))))))

/- 135 slices.Concat[[]int,int] -/
theorem ok135 : FnOk prog 135 := ⟨⟨f135, func135, by kernel_rfl, rfl⟩⟩
theorem s135_l1 : ∀ (k_ : Nat) (v1 v2 : Sl) (v3 v4 : Int) (H : Hp), Fin prog f135 ret135 36 (todoAt (bodyOf f135) [1, 1, 1, 1, 0, 1, 0, 0] []) [(6, .sl v1), (25, .sl v2), (26, .int .i64 v3), (27, .int .i64 v4)] H (r135_l1 k_ v1 v2 v3 v4 H) := by
 intro k_
 induction k_ with
 | zero => intro _ _ _ _ _; exact f_none
 | succ k_ ih =>
  intro v1 v2 v3 v4 H
  rw [r135_l1]
  refine q_ (p_ rfl (s_lss rfl rfl) (f_nil (f_seq ?_)))
  refine f_if (fun h1 => ?_) (fun h1 => ?_)
  ·refine kT 28 h1 rfl (f_skip (f_seq (f_block (q_ (o_ck fun g2 => p_ rfl (s_idx underlying31 ty25 rfl rfl g2) (o_bind fun x3 hx3 => p_ rfl (s_load underlying25 rfl rfl (ldSl_eq hx3)) (a_ (.sl x3) rfl (f_nil (f_region (m_ (.sl v1) rfl (m_ (.sl x3) rfl ?_)))))))))))
   exact o_bind fun x4 hx4 => o_ck fun g5 => o_bind fun x6 hx6 => p_ rfl (s_append rfl rfl underlying25 underlying25 ty3 (by decide) rfl (by decide) rfl rfl hx4 g5 hx6) (a_ (.sl x6.1) rfl (f_nil (f_inBlock (f_region (p_ rfl (s_add rfl rfl) (m_ (.int .i64 (w64 (v4 + 1))) rfl (f_nil (f_inLoop (f_keep [6, 25, 26, 27] (ih x6.1 v2 v3 (w64 (v4 + 1)) x6.2))))))))))
  ·exact kF 28 h1 rfl (f_exit rfl (q_ (m_ (.sl v1) rfl (a_ (.sl v1) rfl (f_nil (f_ret (.tmp rfl (.nil)) rfl))))))

theorem s135_l0 : ∀ (k_ : Nat) (v1 : Sl) (v2 : Int) (v3 : Sl) (v4 v5 : Int) (H : Hp), Fin prog f135 ret135 36 (todoAt (bodyOf f135) [1, 1, 0, 1, 0, 0] []) [(0, .sl v1), (3, .int .i64 v2), (9, .sl v3), (10, .int .i64 v4), (11, .int .i64 v5)] H (r135_l0 k_ v1 v2 v3 v4 v5 H) := by
 intro k_
 induction k_ with
 | zero => intro _ _ _ _ _ _; exact f_none
 | succ k_ ih =>
  intro v1 v2 v3 v4 v5 H
  rw [r135_l0]
  refine q_ (p_ rfl (s_lss rfl rfl) (f_nil (f_seq ?_)))
  refine f_if (fun h1 => ?_) (fun h1 => ?_)
  ·refine kT 12 h1 rfl (f_skip (f_seq (f_block (q_ (o_ck fun g2 => p_ rfl (s_idx underlying31 ty25 rfl rfl g2) (o_bind fun x3 hx3 => p_ rfl (s_load underlying25 rfl rfl (ldSl_eq hx3)) (a_ (.sl x3) rfl (n_ (m_ (.int .i64 v2) rfl ?_)))))))))
   refine m_ (.sl x3) rfl (p_ rfl (s_lenS rfl underlying25 rfl) (p_ rfl (s_add rfl rfl) (a_ (.int .i64 (w64 (v2 + (x3.len : Int)))) rfl (n_ (m_ (.int .i64 (w64 (v2 + (x3.len : Int)))) rfl (p_ rfl (s_lss rfl rfl) (f_nil ?_)))))))
   refine f_if (fun h4 => ?_) (fun h4 => ?_)
   ·exact kT 20 h4 rfl (f_region (o_none))
   ·exact kF 20 h4 rfl (f_skip (f_inBlock (f_region (p_ rfl (s_add rfl rfl) (m_ (.int .i64 (w64 (v5 + 1))) rfl (f_nil (f_inLoop (f_keep [0, 3, 9, 10, 11] (ih v1 (w64 (v2 + (x3.len : Int))) v3 v4 (w64 (v5 + 1)) H)))))))))
  ·refine kF 12 h1 rfl (f_exit rfl (q_ (m_ (.int .i64 v2) rfl (o_bind fun p5 hp5 => p_ rfl (s_callF rfl ok186 (sim186 hp5)) (a_ (.sl p5.1) rfl (f_nil (f_seq (q_ (m_ (.sl v1) rfl (p_ rfl (s_lenS rfl underlying31 rfl) (m_ (.int .i64 0) rfl ?_)))))))))))
   exact f_nil (f_block (f_loop (f_keep [6, 25, 26, 27] (s135_l1 FUEL p5.1 v1 (v1.len : Int) 0 p5.2))))

theorem sim135 {a0 : Sl} {H : Hp} {p : Sl × Hp} (h : r135 a0 H = some p) : CallSim prog 135 [.sl a0] H (.sl p.1) p.2 := by
 refine callSim (fn := f135) (ret := ret135) func135 rfl Tryz.ntmps135 rfl ?_ h
 unfold r135
 refine q_ (a_ (.sl ⟨true, 0, 0, 0, 0, 0⟩) rfl (n_ (a_ (.int .i64 0) rfl (f_nil (f_seq (q_ (m_ (.sl a0) rfl (p_ rfl (s_lenS rfl underlying31 rfl) (m_ (.int .i64 0) rfl (f_nil (f_block ?_)))))))))))
 exact f_loop (f_keep [0, 3, 9, 10, 11] (s135_l0 FUEL a0 0 a0 (a0.len : Int) 0 H))

end Go.Lt.P10
