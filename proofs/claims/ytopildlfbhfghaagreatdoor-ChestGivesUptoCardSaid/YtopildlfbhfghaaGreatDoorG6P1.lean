/- PRINTED BY A PROGRAM OF OURS: what each function that 'ChestGives' reaches computes on the abstract heap, and that the translated code does just that. Nothing is asked of the input. -/
import Derived.Test.YtopildlfbhfghaaGreatDoorG6P0
set_option linter.unusedVariables false
set_option linter.unusedSimpArgs false
set_option maxRecDepth 100000
set_option maxHeartbeats 4000000
namespace Go.Lt.P10
open Go Go.Lt Go.Proofs Go.Proofs.Tryz
/- 108 congou/chest.read -/
theorem ok108 : FnOk prog 108 := ⟨⟨f108, func108, by kernel_rfl, rfl⟩⟩
theorem s108_j2 {app : App} (happ : AppSim prog app) (kt1 : ByteArray → Nat → Sl → Int → Int → Hp → Option ((Sl × Sl × Bool) × Hp)) (hkt1 : ∀ (v1 : ByteArray) (v2 : Nat) (v3 : Sl) (v4 v5 : Int) (H : Hp), Fin prog f108 ret108 59 (todoAt (bodyOf f108) [1, 1, 1, 0, 1, 0, 0] []) [(0, .str v1), (4, .ptr v2 0), (24, .sl v3), (25, .int .i64 v4), (26, .int .i64 v5)] H (kt1 v1 v2 v3 v4 v5 H)) (v1 : ByteArray) (v2 : Nat) (v3 : Bool) (v4 : Sl) (v5 v6 : Int) (H : Hp) : Fin prog f108 ret108 59 (todoAt (bodyOf f108) [1, 1, 1, 0, 1, 0, 0, 1, 1, 0, 0, 1, 1] []) [(0, .str v1), (4, .ptr v2 0), (5, .bool v3), (24, .sl v4), (25, .int .i64 v5), (26, .int .i64 v6)] H (r108_j2 app kt1 v1 v2 v3 v4 v5 v6 H) := by
 unfold r108_j2
 refine q_ (m_ (.bool v3) rfl (p_ rfl (s_not rfl) (f_nil ?_)))
 refine f_if (fun h1 => ?_) (fun h1 => ?_)
 ·exact f_know 55 rfl (bool_notT h1) (f_condF rfl (f_skip (f_inBlock (f_region (p_ rfl (s_add rfl rfl) (m_ (.int .i64 (w64 (v6 + 1))) rfl (f_nil (f_inLoop (f_keep [0, 4, 24, 25, 26] (hkt1 v1 v2 v4 v5 (w64 (v6 + 1)) H))))))))))
 ·exact f_know 55 rfl (bool_notF h1) (f_condT rfl (q_ (p_ rfl (s_build (cs := [.sl ⟨true, 0, 0, 0, 0, 0⟩, .sl ⟨true, 0, 0, 0, 0, 0⟩]) underlying167 ty167 rfl pl167 rfl) (o_bind fun H2 hH2 => p_ rfl (s_stores ty167 rfl rfl rfl rfl hH2 (Nat.le_of_eq (sts_mono hH2).symm)) (a_ (.bool false) rfl (f_nil (f_bind fun x3 hx3 => f_bind fun x4 hx4 => f_ret (.cells underlying167 rfl sz167 rfl (lds_cons (ldSl_eq hx3) (lds_cons (ldSl_eq hx4) (lds_nil))) (.tmp rfl (.nil))) rfl)))))))

theorem s108_l1 {app : App} (happ : AppSim prog app) : ∀ (k_ : Nat) (v1 : ByteArray) (v2 : Nat) (v3 : Sl) (v4 v5 : Int) (H : Hp), Fin prog f108 ret108 59 (todoAt (bodyOf f108) [1, 1, 1, 0, 1, 0, 0] []) [(0, .str v1), (4, .ptr v2 0), (24, .sl v3), (25, .int .i64 v4), (26, .int .i64 v5)] H (r108_l1 app k_ v1 v2 v3 v4 v5 H) := by
 intro k_
 induction k_ with
 | zero => intro _ _ _ _ _ _; exact f_none
 | succ k_ ih =>
  intro v1 v2 v3 v4 v5 H
  rw [r108_l1]
  refine q_ (p_ rfl (s_lss rfl rfl) (f_nil (f_seq ?_)))
  refine f_if (fun h1 => ?_) (fun h1 => ?_)
  ·refine kT 27 h1 rfl (f_skip (f_seq (f_block (q_ (m_ (.int .i64 v5) rfl (o_ck fun g2 => p_ rfl (s_idx underlying22 ty9 rfl rfl g2) (o_bind fun x3 hx3 => p_ rfl (s_load underlying9 rfl rfl (ldStr_eq hx3)) (a_ (.int .i64 v5) rfl (a_ (.str x3) rfl (f_nil (f_seq ?_)))))))))))
   refine q_ (m_ (.str v1) rfl (m_ (.int .i64 v5) rfl (o_ck fun g4 => p_ rfl (s_indexStr underlying9 rfl rfl g4) (p_ rfl (s_eql rfl rfl) (f_nil ?_)))))
   refine f_if (fun h5 => ?_) (fun h5 => ?_)
   ·refine kT 34 h5 rfl (q_ (p_ rfl (s_fieldAddr underlying167 rfl ty22 rfl) (o_bind fun x6 hx6 => p_ rfl (s_load underlying22 rfl rfl (ldSl_eq hx6)) (m_ (.str x3) rfl (p_ rfl (s_buildSlice (cs := [.str x3]) underlying22 ty9 (by decide) (by decide) rfl (by decide) rfl) (o_bind fun x7 hx7 => p_ rfl (s_ap rfl rfl underlying22 underlying22 ty9 rfl rfl rfl rfl rfl rfl rfl hx7) (p_ rfl (s_fieldAddr underlying167 rfl ty22 rfl) (o_bind fun H8 hH8 => p_ rfl (s_store (s := 1) ty22 rfl rfl rfl hH8) (f_nil (f_region ?_))))))))))
    exact m_ (.str x3) rfl (o_bind fun p9 hp9 => p_ rfl (s_callF rfl ok165 (sim165 hp9)) (a_ (.bool p9.1) rfl (f_nil (f_keep [0, 4, 5, 24, 25, 26] (s108_j2 happ _ ih v1 v2 p9.1 v3 v4 v5 p9.2)))))
   ·refine kF 34 h5 rfl (q_ (a_ (.int .i64 0) rfl (n_ (m_ (.str x3) rfl (o_bind fun p10 hp10 => p_ rfl (s_callF rfl ok166 (sim166 happ hp10)) (m_ (.tup [.int .i64 p10.1.1, .bool p10.1.2]) rfl (p_ rfl (s_extract (r := .int .i64 p10.1.1) rfl rfl) (p_ rfl (s_extract (r := .bool p10.1.2) rfl rfl) (a_ (.int .i64 p10.1.1) rfl (a_ (.bool p10.1.2) rfl ?_))))))))))
    exact f_nil (f_region (p_ rfl (s_fieldAddr underlying167 rfl ty25 rfl) (o_bind fun x11 hx11 => p_ rfl (s_load underlying25 rfl rfl (ldSl_eq hx11)) (m_ (.int .i64 p10.1.1) rfl (p_ rfl (s_buildSlice (cs := [.int .i64 p10.1.1]) underlying25 ty3 (by decide) (by decide) rfl (by decide) rfl) (o_bind fun x12 hx12 => p_ rfl (s_ap rfl rfl underlying25 underlying25 ty3 rfl rfl rfl rfl rfl rfl rfl hx12) (p_ rfl (s_fieldAddr underlying167 rfl ty25 rfl) (o_bind fun H13 hH13 => p_ rfl (s_store (s := 1) ty25 rfl rfl rfl hH13) (f_nil (f_keep [0, 4, 5, 24, 25, 26] (s108_j2 happ _ ih v1 v2 p10.1.2 v3 v4 v5 H13)))))))))))
  ·exact kF 27 h1 rfl (f_exit rfl (q_ (o_bind fun x14 hx14 => o_bind fun x15 hx15 => p_ rfl (s_loads underlying167 rfl ty167 rfl (lds_cons (ldSl_eq hx14) (lds_cons (ldSl_eq hx15) (lds_nil)))) (o_bind fun H16 hH16 => p_ rfl (s_stores ty167 rfl rfl rfl rfl hH16 (Nat.le_of_eq (sts_mono hH16).symm)) (a_ (.bool true) rfl (f_nil (f_bind fun x17 hx17 => f_bind fun x18 hx18 => f_ret (.cells underlying167 rfl sz167 rfl (lds_cons (ldSl_eq hx17) (lds_cons (ldSl_eq hx18) (lds_nil))) (.tmp rfl (.nil))) rfl)))))))

theorem s108_j0 {app : App} (happ : AppSim prog app) (v1 : ByteArray) (v2 : Nat) (v3 : Sl) (v4 : Bool) (H : Hp) : Fin prog f108 ret108 59 (todoAt (bodyOf f108) [1, 1, 0, 1] []) [(0, .str v1), (4, .ptr v2 0), (6, .sl v3), (22, .bool v4)] H (r108_j0 app v1 v2 v3 v4 H) := by
 unfold r108_j0
 refine f_if (fun h1 => ?_) (fun h1 => ?_)
 ·exact bT 22 h1 rfl (q_ (p_ rfl (s_build (cs := [.sl ⟨true, 0, 0, 0, 0, 0⟩, .sl ⟨true, 0, 0, 0, 0, 0⟩]) underlying167 ty167 rfl pl167 rfl) (o_bind fun H2 hH2 => p_ rfl (s_stores ty167 rfl rfl rfl rfl hH2 (Nat.le_of_eq (sts_mono hH2).symm)) (a_ (.bool false) rfl (f_nil (f_bind fun x3 hx3 => f_bind fun x4 hx4 => f_ret (.cells underlying167 rfl sz167 rfl (lds_cons (ldSl_eq hx3) (lds_cons (ldSl_eq hx4) (lds_nil))) (.tmp rfl (.nil))) rfl))))))
 ·exact bF 22 h1 rfl (f_skip (f_seq (q_ (m_ (.sl v3) rfl (p_ rfl (s_lenS rfl underlying22 rfl) (m_ (.int .i64 0) rfl (f_nil (f_block (f_loop (f_keep [0, 4, 24, 25, 26] (s108_l1 happ FUEL v1 v2 v3 (v3.len : Int) 0 H)))))))))))

theorem sim108 {app : App} (happ : AppSim prog app) {a0 : ByteArray} {a1 : ByteArray} {H : Hp} {p : (Sl × Sl × Bool) × Hp} (h : r108 app a0 a1 H = some p) : CallSim prog 108 [.str a0, .str a1] H (.tup [.agg [.sl p.1.1, .sl p.1.2.1], .bool p.1.2.2]) p.2 := by
 refine callSim (fn := f108) (ret := ret108) func108 rfl Tryz.ntmps108 rfl ?_ h
 unfold r108
 refine q_ (p_ rfl (s_alloc (zs := [.sl ⟨true, 0, 0, 0, 0, 0⟩, .sl ⟨true, 0, 0, 0, 0, 0⟩]) ty167 rfl rfl) (a_ (.bool false) rfl (o_hp fun H1 hH1 => n_ (m_ (.str a1) rfl (o_bind fun p2 hp2 => p_ rfl (s_callF rfl ok52 (sim52 hp2)) (o_ck fun g3 => p_ rfl (s_slice underlying22 ty9 rfl rfl rfl g3.1 g3.2) (a_ (.sl (p2.1.cut 1 (1 : Int).toNat ((p2.1.len : Int) : Int).toNat)) rfl (f_nil (f_seq ?_)))))))))
 refine q_ (m_ (.sl (p2.1.cut 1 (1 : Int).toNat ((p2.1.len : Int) : Int).toNat)) rfl (p_ rfl (s_lenS rfl underlying22 rfl) (m_ (.str a0) rfl (p_ rfl (s_lenStr rfl underlying9 rfl) (p_ rfl (s_neq rfl rfl) (m_ (.bool (decide (((p2.1.cut 1 (1 : Int).toNat ((p2.1.len : Int) : Int).toNat).len : Int) ≠ (a0.size : Int)))) rfl ?_))))))
 refine o_if (fun h4 => ?_) (fun h4 => ?_)
 ·exact o_know 18 rfl (dec_true h4) (no_ rfl (no_ rfl (no_ rfl (p_ rfl (s_pickT (v := .bool true) rfl rfl) (f_nil (f_keep [0, 4, 6, 22] (s108_j0 happ a0 H.n (p2.1.cut 1 (1 : Int).toNat ((p2.1.len : Int) : Int).toNat) true p2.2)))))))
 ·exact o_know 18 rfl (dec_false h4) (m_ (.str a1) rfl (o_bind fun p5 hp5 => p_ rfl (s_callF rfl ok164 (sim164 happ hp5)) (p_ rfl (s_not rfl) (p_ rfl (s_pickF (v := .bool (!p5.1)) rfl rfl) (f_nil (f_keep [0, 4, 6, 22] (s108_j0 happ a0 H.n (p2.1.cut 1 (1 : Int).toNat ((p2.1.len : Int) : Int).toNat) (!p5.1) p5.2)))))))

/- 18 slices.Clone[[]int,int] -/
theorem ok18 : FnOk prog 18 := ⟨⟨f18, func18, by kernel_rfl, rfl⟩⟩
theorem sim18 {a0 : Sl} {H : Hp} {p : Sl × Hp} (h : r18 a0 H = some p) : CallSim prog 18 [.sl a0] H (.sl p.1) p.2 := by
 refine callSim (fn := f18) (ret := ret18) func18 rfl Tryz.ntmps18 rfl ?_ h
 unfold r18
 refine q_ (a_ (.sl ⟨true, 0, 0, 0, 0, 0⟩) rfl (f_nil (f_seq (q_ (m_ (.sl a0) rfl (p_ rfl (s_eqNil underlying25 rfl rfl) (f_nil ?_)))))))
 refine f_if (fun h1 => ?_) (fun h1 => ?_)
 ·exact bT 4 h1 rfl (q_ (a_ (.sl ⟨true, 0, 0, 0, 0, 0⟩) rfl (f_nil (f_ret (.tmp rfl (.nil)) rfl))))
 ·exact bF 4 h1 rfl (f_skip (q_ (p_ rfl (s_buildSlice0 underlying25 ty3) (m_ (.sl a0) rfl (o_bind fun x2 hx2 => o_ck fun g3 => o_bind fun x4 hx4 => p_ rfl (s_append rfl rfl underlying25 underlying25 ty3 (by decide) rfl (by decide) rfl rfl hx2 g3 hx4) (a_ (.sl x4.1) rfl (f_nil (f_ret (.tmp rfl (.nil)) rfl))))))))

/- 168 slices.Clone[[]congou/chest.leaf,congou/chest.leaf] -/
theorem ok168 : FnOk prog 168 := ⟨⟨f168, func168, by kernel_rfl, rfl⟩⟩
theorem sim168 {a0 : Sl} {H : Hp} {p : Sl × Hp} (h : r168 a0 H = some p) : CallSim prog 168 [.sl a0] H (.sl p.1) p.2 := by
 refine callSim (fn := f168) (ret := ret168) func168 rfl Tryz.ntmps168 rfl ?_ h
 unfold r168
 refine q_ (a_ (.sl ⟨true, 0, 0, 0, 0, 0⟩) rfl (f_nil (f_seq (q_ (m_ (.sl a0) rfl (p_ rfl (s_eqNil underlying147 rfl rfl) (f_nil ?_)))))))
 refine f_if (fun h1 => ?_) (fun h1 => ?_)
 ·exact bT 4 h1 rfl (q_ (a_ (.sl ⟨true, 0, 0, 0, 0, 0⟩) rfl (f_nil (f_ret (.tmp rfl (.nil)) rfl))))
 ·exact bF 4 h1 rfl (f_skip (q_ (p_ rfl (s_buildSlice0 underlying147 ty186) (m_ (.sl a0) rfl (o_bind fun x2 hx2 => o_ck fun g3 => o_bind fun x4 hx4 => p_ rfl (s_append rfl rfl underlying147 underlying147 ty186 (by decide) rfl (by decide) rfl rfl hx2 g3 hx4) (a_ (.sl x4.1) rfl (f_nil (f_ret (.tmp rfl (.nil)) rfl))))))))

/- 169 slices.Clone[[][2]int,[2]int] -/
theorem ok169 : FnOk prog 169 := ⟨⟨f169, func169, by kernel_rfl, rfl⟩⟩
theorem sim169 {a0 : Sl} {H : Hp} {p : Sl × Hp} (h : r169 a0 H = some p) : CallSim prog 169 [.sl a0] H (.sl p.1) p.2 := by
 refine callSim (fn := f169) (ret := ret169) func169 rfl Tryz.ntmps169 rfl ?_ h
 unfold r169
 refine q_ (a_ (.sl ⟨true, 0, 0, 0, 0, 0⟩) rfl (f_nil (f_seq (q_ (m_ (.sl a0) rfl (p_ rfl (s_eqNil underlying27 rfl rfl) (f_nil ?_)))))))
 refine f_if (fun h1 => ?_) (fun h1 => ?_)
 ·exact bT 4 h1 rfl (q_ (a_ (.sl ⟨true, 0, 0, 0, 0, 0⟩) rfl (f_nil (f_ret (.tmp rfl (.nil)) rfl))))
 ·exact bF 4 h1 rfl (f_skip (q_ (p_ rfl (s_buildSlice0 underlying27 ty101) (m_ (.sl a0) rfl (o_bind fun x2 hx2 => o_ck fun g3 => o_bind fun x4 hx4 => p_ rfl (s_append rfl rfl underlying27 underlying27 ty101 (by decide) rfl (by decide) rfl rfl hx2 g3 hx4) (a_ (.sl x4.1) rfl (f_nil (f_ret (.tmp rfl (.nil)) rfl))))))))

/- 111 (*congou/chest.state).clone -/
theorem ok111 : FnOk prog 111 := ⟨⟨f111, func111, by kernel_rfl, rfl⟩⟩
theorem sim111 {a0b : Nat} {a0o : Nat} {H : Hp} {p : (Nat × Nat) × Hp} (h : r111 a0b a0o H = some p) : CallSim prog 111 [.ptr a0b a0o] H (.ptr p.1.1 p.1.2) p.2 := by
 refine callSim (fn := f111) (ret := ret111) func111 rfl Tryz.ntmps111 rfl ?_ h
 unfold r111
 refine q_ (a_ (.nilptr) rfl (f_nil (f_seq (f_bind fun x1 hx1 => f_bind fun p2 hp2 => f_bind fun x3 hx3 => f_bind fun p4 hp4 => f_bind fun x5 hx5 => f_bind fun x6 hx6 => f_bind fun x7 hx7 => f_bind fun x8 hx8 => f_bind fun x9 hx9 => f_bind fun p10 hp10 => f_ck fun g11 => ?_))))
 refine f_ck fun g12 => f_ck fun g13 => f_ck fun g14 => f_ck fun g15 => f_ck fun g16 => f_ck fun g17 => f_ck fun g18 => f_ck fun g19 => f_ck fun g20 => f_ck fun g21 => f_ck fun g22 => f_ck fun g23 => f_ck fun g24 => f_ck fun g25 => f_ck fun g26 => f_ck fun g27 => ?_
 exact f_ck fun g28 => f_draw (Φ := fun H_ => H_.ld a0b (a0o + 1) = some (.sl x3) ∧ H_.ld a0b (a0o + 2) = some (.int .i64 x5) ∧ H_.ld a0b ((a0o + 2) + 1) = some (.int .i64 x6) ∧ H_.ld a0b ((a0o + 2) + 2) = some (.int .i64 x7) ∧ H_.ld a0b ((a0o + 2) + 3) = some (.int .i64 x8) ∧ H_.ld a0b (a0o + 6) = some (.sl x9)) (lim := 20) [0, 0, 0, 1, 2, 0, 0, 0, 0, 2, 0, 0, 0, 0, 0, 0, 0, 0, 2, 0, 2, 0] (tm (.ptr a0b a0o) rfl (t_ rfl (fun _ => s_nilCheck rfl) (t_ rfl (fun _ => s_fieldAddr underlying150 rfl ty147 rfl) (tr rfl (s_load underlying147 rfl rfl (ldSl_eq hx1)) (Trc.eff rfl rfl rfl (fun _ => ⟨ldSl_eq g11, ldI_eq g12, ldI_eq g13, ldI_eq g14, ldI_eq g15, ldSl_eq g16⟩) (s_callF rfl ok168 (sim168 hp2)) (tm (.ptr a0b a0o) rfl (t_ rfl (fun _ => s_nilCheck rfl) (t_ rfl (fun _ => s_fieldAddr underlying150 rfl ty25 rfl) (Trc.pure rfl rfl rfl (.inr ⟨by decide +kernel, fun _ hp_ => s_load underlying25 rfl rfl hp_.1⟩) (Trc.eff rfl rfl rfl (fun _ => ⟨ldSl_eq hx3, ldI_eq g17, ldI_eq g18, ldI_eq g19, ldI_eq g20, ldSl_eq g21⟩) (s_callF rfl ok18 (sim18 hp4)) (tm (.ptr a0b a0o) rfl (t_ rfl (fun _ => s_nilCheck rfl) (t_ rfl (fun _ => s_fieldAddr underlying150 rfl ty148 rfl) (Trc.pure rfl rfl rfl (.inr ⟨by decide +kernel, fun _ hp_ => s_loads underlying148 rfl ty148 rfl (lds_cons hp_.2.1 (lds_cons hp_.2.2.1 (lds_cons hp_.2.2.2.1 (lds_cons hp_.2.2.2.2.1 (lds_nil)))))⟩) (tm (.ptr a0b a0o) rfl (t_ rfl (fun _ => s_nilCheck rfl) (t_ rfl (fun _ => s_fieldAddr underlying150 rfl ty27 rfl) (Trc.pure rfl rfl rfl (.inr ⟨by decide +kernel, fun _ hp_ => s_load underlying27 rfl rfl hp_.2.2.2.2.2⟩) (Trc.eff rfl rfl rfl (fun _ => ⟨ldSl_eq g22, ldI_eq hx5, ldI_eq hx6, ldI_eq hx7, ldI_eq hx8, ldSl_eq hx9⟩) (s_callF rfl ok169 (sim169 hp10)) (t_ rfl (fun _ => s_build (cs := [.sl p2.1, .sl p4.1, .int .i64 x5, .int .i64 x6, .int .i64 x7, .int .i64 x8, .sl p10.1]) underlying150 ty150 rfl pl150 rfl) (Trc.eff rfl rfl rfl (fun _ => ⟨ldSl_eq g23, ldI_eq g24, ldI_eq g25, ldI_eq g26, ldI_eq g27, ldSl_eq g28⟩) (s_box (v := .agg [.sl p2.1, .sl p4.1, .int .i64 x5, .int .i64 x6, .int .i64 x7, .int .i64 x8, .sl p10.1]) rfl rfl) (t_ rfl (fun _ => s_as (v := .ptr p10.2.n 0) rfl) (Trc.nil (fun h_ => absurd h_ (by decide +kernel))))))))))))))))))))))))) rfl (by decide +kernel) mixed (f_ret (.tmp rfl (.nil)) rfl)

/- 64 (*congou/chest.state).do -/
theorem ok64 : FnOk prog 64 := ⟨⟨f64, func64, by kernel_rfl, rfl⟩⟩
theorem s64_j0 {app : App} (happ : AppSim prog app) (v1 v2 : Nat) (v3 v4 : ByteArray) (v5 v6 : Nat) (v7 : ByteArray) (v8 : AV) (H : Hp) : Fin prog f64 ret64 64 (todoAt (bodyOf f64) [1, 1, 1, 1, 1] []) [(0, .ptr v1 v2), (1, .str v3), (7, .str v4), (10, .ptr v5 v6), (11, .str v7), (12, v8)] H (r64_j0 app v1 v2 v3 v4 v5 v6 v7 v8 H) := by
 unfold r64_j0
 refine q_ (m_ (.str v7) rfl (m_ (.str v3) rfl (o_bind fun p1 hp1 => p_ rfl (s_callF rfl ok108 (sim108 happ hp1)) (m_ (.tup [.agg [.sl p1.1.1, .sl p1.1.2.1], .bool p1.1.2.2]) rfl (p_ rfl (s_extract (r := .agg [.sl p1.1.1, .sl p1.1.2.1]) rfl rfl) (p_ rfl (s_extract (r := .bool p1.1.2.2) rfl rfl) (p_ rfl (s_alloc (zs := [.sl ⟨true, 0, 0, 0, 0, 0⟩, .sl ⟨true, 0, 0, 0, 0, 0⟩]) ty167 rfl rfl) (o_bind fun H2 hH2 => p_ rfl (s_stores ty167 rfl rfl rfl rfl hH2 (Nat.le_of_eq (sts_mono hH2).symm)) (a_ (.bool p1.1.2.2) rfl (f_nil (f_seq (f_seq ?_))))))))))))
 refine f_region (m_ (.bool p1.1.2.2) rfl (p_ rfl (s_not rfl) (f_nil ?_)))
 refine f_if (fun h3 => ?_) (fun h3 => ?_)
 ·refine f_know 53 rfl (bool_notT h3) (f_condF rfl (f_skip (f_seq (q_ (m_ v8 rfl (o_bind fun x4 hx4 => o_bind fun x5 hx5 => p_ rfl (s_loads underlying167 rfl ty167 rfl (lds_cons (ldSl_eq hx4) (lds_cons (ldSl_eq hx5) (lds_nil)))) (o_bind fun p6 hp6 => o_bind fun x7 hx7 => p_ rfl (s_callv happ rfl rfl hp6) (o_know 57 rfl (asI_eq hx7) (a_ (.int .i64 x7) rfl (f_nil ?_))))))))))
  refine q_ (m_ (.int .i64 x7) rfl (p_ rfl (s_neq rfl rfl) (f_nil ?_)))
  refine f_if (fun h8 => ?_) (fun h8 => ?_)
  ·exact kT 59 h8 rfl (q_ (m_ (.ptr v1 v2) rfl (m_ (.int .i64 x7) rfl (a_ (.ptr v1 v2) rfl (a_ (.str (ByteArray.mk #[])) rfl (a_ (.int .i64 x7) rfl (f_nil (f_ret (.tmp rfl (.tmp rfl (.tmp rfl (.nil)))) rfl))))))))
  ·exact kF 59 h8 rfl (f_skip (q_ (m_ (.ptr v5 v6) rfl (m_ (.str v4) rfl (a_ (.ptr v5 v6) rfl (a_ (.str v4) rfl (a_ (.int .i64 0) rfl (f_nil (f_ret (.tmp rfl (.tmp rfl (.tmp rfl (.nil)))) rfl)))))))))
 ·exact f_know 53 rfl (bool_notF h3) (f_condT rfl (q_ (m_ (.ptr v1 v2) rfl (a_ (.ptr v1 v2) rfl (a_ (.str (ByteArray.mk #[])) rfl (a_ (.int .i64 3) rfl (f_nil (f_ret (.tmp rfl (.tmp rfl (.tmp rfl (.nil)))) rfl))))))))

theorem sim64 {app : App} (happ : AppSim prog app) {a0b : Nat} {a0o : Nat} {a1 : ByteArray} {H : Hp} {p : (Nat × Nat × ByteArray × Int) × Hp} (h : r64 app a0b a0o a1 H = some p) : CallSim prog 64 [.ptr a0b a0o, .str a1] H (.tup [.ptr p.1.1 p.1.2.1, .str p.1.2.2.1, .int .i64 p.1.2.2.2]) p.2 := by
 refine callSim (fn := f64) (ret := ret64) func64 rfl Tryz.ntmps64 rfl ?_ h
 unfold r64
 refine q_ (a_ (.nilptr) rfl (a_ (.str (ByteArray.mk #[])) rfl (a_ (.int .i64 0) rfl (n_ (m_ (.str a1) rfl (o_bind fun p1 hp1 => p_ rfl (s_callF rfl ok97 (sim97 hp1)) (m_ (.tup [.str p1.1.1, .str p1.1.2.1, .bool p1.1.2.2]) rfl (p_ rfl (s_extract (r := .str p1.1.1) rfl rfl) (p_ rfl (s_extract (r := .str p1.1.2.1) rfl rfl) (p_ rfl (s_extract (r := .bool p1.1.2.2) rfl rfl) (a_ (.str p1.1.1) rfl ?_)))))))))))
 refine a_ (.str p1.1.2.1) rfl (a_ (.bool p1.1.2.2) rfl (n_ (m_ (.ptr a0b a0o) rfl (o_bind fun p2 hp2 => p_ rfl (s_callF rfl ok111 (sim111 hp2)) (a_ (.ptr p2.1.1 p2.1.2) rfl (n_ (m_ (.ptr p2.1.1 p2.1.2) rfl (p_ rfl (s_makeFunc rfl rfl) (a_ (.str (ByteArray.mk #[])) rfl (a_ (.fn 112 [.ptr p2.1.1 p2.1.2] []) rfl ?_))))))))))
 refine f_nil (f_seq (q_ (m_ (.str p1.1.1) rfl (f_nil (f_block (q_ (p_ rfl (s_eqStr rfl rfl) (a_ (.bool (strEq p1.1.1 (ByteArray.mk #[108, 101, 97, 102]))) rfl (f_nil ?_)))))))))
 refine f_if (fun h3 => ?_) (fun h3 => ?_)
 ·exact bT 28 h3 rfl (f_region (a_ (.str (ByteArray.mk #[110, 100])) rfl (f_nil (f_inBlock (f_keep [0, 1, 7, 10, 11, 12] (s64_j0 happ a0b a0o a1 p1.1.1 p2.1.1 p2.1.2 (ByteArray.mk #[110, 100]) (.fn 112 [.ptr p2.1.1 p2.1.2] []) p2.2))))))
 ·refine bF 28 h3 rfl (q_ (p_ rfl (s_eqStr rfl rfl) (a_ (.bool (strEq p1.1.1 (ByteArray.mk #[103, 105, 118, 101]))) rfl (f_nil ?_))))
  refine f_if (fun h4 => ?_) (fun h4 => ?_)
  ·exact bT 30 h4 rfl (f_region (m_ (.ptr p2.1.1 p2.1.2) rfl (p_ rfl (s_makeFunc rfl rfl) (a_ (.str (ByteArray.mk #[110, 110, 100])) rfl (a_ (.fn 113 [.ptr p2.1.1 p2.1.2] []) rfl (f_nil (f_inBlock (f_keep [0, 1, 7, 10, 11, 12] (s64_j0 happ a0b a0o a1 p1.1.1 p2.1.1 p2.1.2 (ByteArray.mk #[110, 110, 100]) (.fn 113 [.ptr p2.1.1 p2.1.2] []) p2.2)))))))))
  ·refine bF 30 h4 rfl (q_ (p_ rfl (s_eqStr rfl rfl) (a_ (.bool (strEq p1.1.1 (ByteArray.mk #[111, 114, 100, 101, 114]))) rfl (f_nil ?_))))
   refine f_if (fun h5 => ?_) (fun h5 => ?_)
   ·exact bT 34 h5 rfl (f_region (m_ (.ptr p2.1.1 p2.1.2) rfl (p_ rfl (s_makeFunc rfl rfl) (a_ (.str (ByteArray.mk #[110])) rfl (a_ (.fn 114 [.ptr p2.1.1 p2.1.2] []) rfl (f_nil (f_inBlock (f_keep [0, 1, 7, 10, 11, 12] (s64_j0 happ a0b a0o a1 p1.1.1 p2.1.1 p2.1.2 (ByteArray.mk #[110]) (.fn 114 [.ptr p2.1.1 p2.1.2] []) p2.2)))))))))
   ·refine bF 34 h5 rfl (q_ (p_ rfl (s_eqStr rfl rfl) (a_ (.bool (strEq p1.1.1 (ByteArray.mk #[116, 97, 115, 116, 101]))) rfl (f_nil ?_))))
    refine f_if (fun h6 => ?_) (fun h6 => ?_)
    ·exact bT 38 h6 rfl (f_region (m_ (.ptr p2.1.1 p2.1.2) rfl (p_ rfl (s_makeFunc rfl rfl) (a_ (.str (ByteArray.mk #[100, 100])) rfl (a_ (.fn 115 [.ptr p2.1.1 p2.1.2] []) rfl (f_nil (f_inBlock (f_keep [0, 1, 7, 10, 11, 12] (s64_j0 happ a0b a0o a1 p1.1.1 p2.1.1 p2.1.2 (ByteArray.mk #[100, 100]) (.fn 115 [.ptr p2.1.1 p2.1.2] []) p2.2)))))))))
    ·refine bF 38 h6 rfl (q_ (p_ rfl (s_eqStr rfl rfl) (a_ (.bool (strEq p1.1.1 (ByteArray.mk #[111, 102, 102, 101, 114]))) rfl (f_nil ?_))))
     refine f_if (fun h7 => ?_) (fun h7 => ?_)
     ·exact bT 42 h7 rfl (f_region (m_ (.ptr p2.1.1 p2.1.2) rfl (p_ rfl (s_makeFunc rfl rfl) (a_ (.str (ByteArray.mk #[100, 100])) rfl (a_ (.fn 116 [.ptr p2.1.1 p2.1.2] []) rfl (f_nil (f_inBlock (f_keep [0, 1, 7, 10, 11, 12] (s64_j0 happ a0b a0o a1 p1.1.1 p2.1.1 p2.1.2 (ByteArray.mk #[100, 100]) (.fn 116 [.ptr p2.1.1 p2.1.2] []) p2.2)))))))))
     ·exact bF 42 h7 rfl (q_ (m_ (.ptr a0b a0o) rfl (a_ (.ptr a0b a0o) rfl (a_ (.str (ByteArray.mk #[])) rfl (a_ (.int .i64 3) rfl (f_nil (f_ret (.tmp rfl (.tmp rfl (.tmp rfl (.nil)))) rfl)))))))

/- 117 slices.IndexFunc[[]congou/chest.page,congou/chest.page] -/
theorem ok117 : FnOk prog 117 := ⟨⟨f117, func117, by kernel_rfl, rfl⟩⟩
theorem s117_l0 {app : App} (happ : AppSim prog app) : ∀ (k_ : Nat) (v1 : Sl) (v2 : AV) (v3 v4 : Int) (H : Hp), Fin prog f117 ret117 19 (todoAt (bodyOf f117) [1, 0, 1, 0, 0] []) [(0, .sl v1), (1, v2), (7, .int .i64 v3), (8, .int .i64 v4)] H (r117_l0 app k_ v1 v2 v3 v4 H) := by
 intro k_
 induction k_ with
 | zero => intro _ _ _ _ _; exact f_none
 | succ k_ ih =>
  intro v1 v2 v3 v4 H
  rw [r117_l0]
  refine q_ (p_ rfl (s_lss rfl rfl) (f_nil (f_seq ?_)))
  refine f_if (fun h1 => ?_) (fun h1 => ?_)
  ·refine kT 9 h1 rfl (f_skip (f_seq (f_block (q_ (m_ (.int .i64 v4) rfl (a_ (.int .i64 v4) rfl (n_ (m_ v2 rfl (m_ (.sl v1) rfl (m_ (.int .i64 v4) rfl (o_ck fun g2 => ?_)))))))))))
   refine p_ rfl (s_idx underlying116 ty120 rfl rfl g2) (o_bind fun x3 hx3 => o_bind fun x4 hx4 => o_bind fun x5 hx5 => p_ rfl (s_loads underlying120 rfl ty120 rfl (lds_cons (ldStr_eq hx3) (lds_cons (ldI_eq hx4) (lds_cons (ldP_eq hx5) (lds_nil))))) (o_bind fun p6 hp6 => o_bind fun x7 hx7 => p_ rfl (s_callv happ rfl rfl hp6) (o_know 16 rfl (asB_eq hx7) (f_nil ?_))))
   refine f_if (fun h8 => ?_) (fun h8 => ?_)
   ·exact bT 16 h8 rfl (q_ (m_ (.int .i64 v4) rfl (a_ (.int .i64 v4) rfl (f_nil (f_ret (.tmp rfl (.nil)) rfl)))))
   ·exact bF 16 h8 rfl (f_skip (f_inBlock (f_region (p_ rfl (s_add rfl rfl) (m_ (.int .i64 (w64 (v4 + 1))) rfl (f_nil (f_inLoop (f_keep [0, 1, 7, 8] (ih v1 v2 v3 (w64 (v4 + 1)) p6.2)))))))))
  ·exact kF 9 h1 rfl (f_exit rfl (q_ (a_ (.int .i64 (-1)) rfl (f_nil (f_ret (.tmp rfl (.nil)) rfl)))))

theorem sim117 {app : App} (happ : AppSim prog app) {a0 : Sl} {a1 : AV} {H : Hp} {p : Int × Hp} (h : r117 app a0 a1 H = some p) : CallSim prog 117 [.sl a0, a1] H (.int .i64 p.1) p.2 := by
 refine callSim (fn := f117) (ret := ret117) func117 rfl Tryz.ntmps117 rfl ?_ h
 unfold r117
 exact q_ (a_ (.int .i64 0) rfl (f_nil (f_seq (q_ (m_ (.sl a0) rfl (p_ rfl (s_lenS rfl underlying116 rfl) (m_ (.int .i64 0) rfl (f_nil (f_block (f_loop (f_keep [0, 1, 7, 8] (s117_l0 happ FUEL a0 a1 (a0.len : Int) 0 H))))))))))))

/- 65 (*congou/chest.Chest).child -/
theorem ok65 : FnOk prog 65 := ⟨⟨f65, func65, by kernel_rfl, rfl⟩⟩
theorem sim65 {app : App} (happ : AppSim prog app) {a0b : Nat} {a0o : Nat} {a1 : Int} {a2 : ByteArray} {H : Hp} {p : Int × Hp} (h : r65 app a0b a0o a1 a2 H = some p) : CallSim prog 65 [.ptr a0b a0o, .int .i64 a1, .str a2] H (.int .i64 p.1) p.2 := by
 refine callSim (fn := f65) (ret := ret65) func65 rfl Tryz.ntmps65 rfl ?_ h
 unfold r65
 refine q_ (p_ rfl (s_box1 (v := .int .i64 a1) rfl rfl) (p_ rfl (s_box1 (v := .str a2) rfl rfl) (a_ (.int .i64 0) rfl (o_hp fun H1 hH1 => n_ (m_ (.ptr a0b a0o) rfl (p_ rfl (s_nilCheck rfl) (p_ rfl (s_fieldAddr underlying118 rfl ty116 rfl) (o_bind fun x2 hx2 => p_ rfl (s_load underlying116 rfl rfl (ldSl_eq hx2)) (p_ rfl (s_makeFunc rfl rfl) (o_bind fun p3 hp3 => ?_))))))))))
 exact p_ rfl (s_callF rfl ok117 (sim117 happ hp3)) (a_ (.int .i64 p3.1) rfl (f_nil (f_ret (.tmp rfl (.nil)) rfl)))

/- 20 (*congou/chest.Chest).Do -/
theorem ok20 : FnOk prog 20 := ⟨⟨f20, func20, by kernel_rfl, rfl⟩⟩
theorem s20_j0 {app : App} (happ : AppSim prog app) (v1 v2 : Nat) (v3 : ByteArray) (v4 : Int) (H : Hp) : Fin prog f20 ret20 66 (todoAt (bodyOf f20) [1, 1, 1, 1, 1, 1] []) [(0, .ptr v1 v2), (7, .str v3), (9, .int .i64 v4)] H (r20_j0 app v1 v2 v3 v4 H) := by
 unfold r20_j0
 exact q_ (m_ (.ptr v1 v2) rfl (m_ (.int .i64 v4) rfl (p_ rfl (s_nilCheck rfl) (p_ rfl (s_fieldAddr underlying118 rfl ty3 rfl) (o_bind fun H1 hH1 => p_ rfl (s_store (s := 1) ty3 rfl rfl rfl hH1) (n_ (m_ (.str v3) rfl (a_ (.str v3) rfl (a_ (.int .i64 0) rfl (f_nil (f_ret (.tmp rfl (.tmp rfl (.nil))) rfl)))))))))))

theorem sim20 {app : App} (happ : AppSim prog app) {a0b : Nat} {a0o : Nat} {a1 : ByteArray} {H : Hp} {p : (ByteArray × Int) × Hp} (h : r20 app a0b a0o a1 H = some p) : CallSim prog 20 [.ptr a0b a0o, .str a1] H (.tup [.str p.1.1, .int .i64 p.1.2]) p.2 := by
 refine callSim (fn := f20) (ret := ret20) func20 rfl Tryz.ntmps20 rfl ?_ h
 unfold r20
 refine q_ (a_ (.str (ByteArray.mk #[])) rfl (a_ (.int .i64 0) rfl (f_nil (f_seq (q_ (m_ (.ptr a0b a0o) rfl (o_bind fun p1 hp1 => p_ rfl (s_callF rfl ok60 (sim60 hp1)) (f_nil ?_))))))))
 refine f_if (fun h2 => ?_) (fun h2 => ?_)
 ·exact bT 11 h2 rfl (q_ (a_ (.str (ByteArray.mk #[])) rfl (a_ (.int .i64 1) rfl (f_nil (f_ret (.tmp rfl (.tmp rfl (.nil))) rfl)))))
 ·refine bF 11 h2 rfl (f_skip (q_ (m_ (.ptr a0b a0o) rfl (o_bind fun p3 hp3 => p_ rfl (s_callF rfl ok61 (sim61 hp3)) (m_ (.str a1) rfl (o_bind fun p4 hp4 => p_ rfl (s_callF rfl ok64 (sim64 happ hp4)) (m_ (.tup [.ptr p4.1.1 p4.1.2.1, .str p4.1.2.2.1, .int .i64 p4.1.2.2.2]) rfl (p_ rfl (s_extract (r := .ptr p4.1.1 p4.1.2.1) rfl rfl) (p_ rfl (s_extract (r := .str p4.1.2.2.1) rfl rfl) (p_ rfl (s_extract (r := .int .i64 p4.1.2.2.2) rfl rfl) (a_ (.ptr p4.1.1 p4.1.2.1) rfl ?_)))))))))))
  refine a_ (.str p4.1.2.2.1) rfl (a_ (.int .i64 p4.1.2.2.2) rfl (f_nil (f_seq (q_ (m_ (.int .i64 p4.1.2.2.2) rfl (p_ rfl (s_neq rfl rfl) (f_nil ?_)))))))
  refine f_if (fun h5 => ?_) (fun h5 => ?_)
  ·exact kT 21 h5 rfl (q_ (m_ (.int .i64 p4.1.2.2.2) rfl (a_ (.str (ByteArray.mk #[])) rfl (a_ (.int .i64 p4.1.2.2.2) rfl (f_nil (f_ret (.tmp rfl (.tmp rfl (.nil))) rfl))))))
  ·refine kF 21 h5 rfl (f_skip (q_ (m_ (.ptr a0b a0o) rfl (m_ (.ptr a0b a0o) rfl (p_ rfl (s_nilCheck rfl) (p_ rfl (s_fieldAddr underlying118 rfl ty3 rfl) (o_bind fun x6 hx6 => p_ rfl (s_load underlying3 rfl rfl (ldI_eq hx6)) (m_ (.str a1) rfl (o_bind fun p7 hp7 => p_ rfl (s_callF rfl ok65 (sim65 happ hp7)) (a_ (.int .i64 p7.1) rfl (f_nil ?_)))))))))))
   refine f_seq (f_block (q_ (m_ (.int .i64 p7.1) rfl (p_ rfl (s_geq rfl rfl) (a_ (.bool (decide (0 ≤ p7.1))) rfl (f_nil ?_))))))
   refine f_if (fun h8 => ?_) (fun h8 => ?_)
   ·exact kT 51 h8 rfl (f_skip (f_inBlock (f_keep [0, 7, 9] (s20_j0 happ a0b a0o p4.1.2.2.1 p7.1 p7.2))))
   ·refine kF 51 h8 rfl (q_ (m_ (.ptr a0b a0o) rfl (p_ rfl (s_nilCheck rfl) (p_ rfl (s_fieldAddr underlying118 rfl ty116 rfl) (o_bind fun x9 hx9 => p_ rfl (s_load underlying116 rfl rfl (ldSl_eq hx9)) (p_ rfl (s_lenS rfl underlying116 rfl) (p_ rfl (s_eql rfl rfl) (a_ (.bool (decide ((x9.len : Int) = 200))) rfl (f_nil ?_)))))))))
    refine f_if (fun h10 => ?_) (fun h10 => ?_)
    ·exact kT 54 h10 rfl (q_ (a_ (.str (ByteArray.mk #[])) rfl (a_ (.int .i64 7) rfl (f_nil (f_ret (.tmp rfl (.tmp rfl (.nil))) rfl)))))
    ·refine kF 54 h10 rfl (q_ (m_ (.ptr a0b a0o) rfl (p_ rfl (s_nilCheck rfl) (p_ rfl (s_fieldAddr underlying118 rfl ty116 rfl) (o_bind fun x11 hx11 => p_ rfl (s_load underlying116 rfl rfl (ldSl_eq hx11)) (p_ rfl (s_lenS rfl underlying116 rfl) (a_ (.int .i64 (x11.len : Int)) rfl (f_nil (f_bind fun x12 hx12 => f_bind fun x13 hx13 => f_bind fun x14 hx14 => f_bind fun H15 hH15 => ?_)))))))))
     exact f_ck fun g16 => f_draw (Φ := fun H_ => H_.ld a0b (a0o + 0) = some (.sl x12)) (lim := 13) [0, 0, 0, 0, 0, 0, 0, 0, 0, 1, 0, 0, 2, 2, 0, 0, 2] (tm (.ptr a0b a0o) rfl (tm (.ptr a0b a0o) rfl (t_ rfl (fun _ => s_nilCheck rfl) (t_ rfl (fun _ => s_fieldAddr underlying118 rfl ty116 rfl) (Trc.pure rfl rfl rfl (.inr ⟨by decide +kernel, fun _ hp_ => s_load underlying116 rfl rfl hp_⟩) (tm (.str a1) rfl (tm (.ptr a0b a0o) rfl (t_ rfl (fun _ => s_nilCheck rfl) (t_ rfl (fun _ => s_fieldAddr underlying118 rfl ty3 rfl) (tr rfl (s_load underlying3 rfl rfl (ldI_eq hx13)) (tm (.ptr p4.1.1 p4.1.2.1) rfl (t_ rfl (fun _ => s_build (cs := [.str a1, .int .i64 x13, .ptr p4.1.1 p4.1.2.1]) underlying120 ty120 rfl pl120 rfl) (Trc.eff rfl rfl rfl (fun _ => ldSl_eq hx12) (s_buildSlice (cs := [.str a1, .int .i64 x13, .ptr p4.1.1 p4.1.2.1]) underlying116 ty120 (by decide) (by decide) rfl (by decide) rfl) (Trc.eff rfl rfl rfl (fun _ => ldSl_eq g16) (s_ap rfl rfl underlying116 underlying116 ty120 rfl rfl rfl rfl rfl rfl rfl hx14) (t_ rfl (fun _ => s_nilCheck rfl) (t_ rfl (fun _ => s_fieldAddr underlying118 rfl ty116 rfl) (Trc.eff rfl rfl rfl (fun h_ => absurd h_ (by decide +kernel)) (s_store (s := 1) ty116 rfl rfl rfl hH15) (Trc.nil (fun h_ => absurd h_ (by decide +kernel)))))))))))))))))))) rfl (by decide +kernel) mixed (f_inBlock (f_keep [0, 7, 9] (s20_j0 happ a0b a0o p4.1.2.2.1 (x11.len : Int) H15)))

/- 174 slices.IndexFunc[[]int,int] -/
theorem ok174 : FnOk prog 174 := ⟨⟨f174, func174, by kernel_rfl, rfl⟩⟩
theorem s174_l0 {app : App} (happ : AppSim prog app) : ∀ (k_ : Nat) (v1 : Sl) (v2 : AV) (v3 v4 : Int) (H : Hp), Fin prog f174 ret174 19 (todoAt (bodyOf f174) [1, 0, 1, 0, 0] []) [(0, .sl v1), (1, v2), (7, .int .i64 v3), (8, .int .i64 v4)] H (r174_l0 app k_ v1 v2 v3 v4 H) := by
 intro k_
 induction k_ with
 | zero => intro _ _ _ _ _; exact f_none
 | succ k_ ih =>
  intro v1 v2 v3 v4 H
  rw [r174_l0]
  refine q_ (p_ rfl (s_lss rfl rfl) (f_nil (f_seq ?_)))
  refine f_if (fun h1 => ?_) (fun h1 => ?_)
  ·refine kT 9 h1 rfl (f_skip (f_seq (f_block (q_ (m_ (.int .i64 v4) rfl (a_ (.int .i64 v4) rfl (n_ (m_ v2 rfl (m_ (.sl v1) rfl (m_ (.int .i64 v4) rfl (o_ck fun g2 => ?_)))))))))))
   refine p_ rfl (s_idx underlying25 ty3 rfl rfl g2) (o_bind fun x3 hx3 => p_ rfl (s_load underlying3 rfl rfl (ldI_eq hx3)) (o_bind fun p4 hp4 => o_bind fun x5 hx5 => p_ rfl (s_callv happ rfl rfl hp4) (o_know 16 rfl (asB_eq hx5) (f_nil ?_))))
   refine f_if (fun h6 => ?_) (fun h6 => ?_)
   ·exact bT 16 h6 rfl (q_ (m_ (.int .i64 v4) rfl (a_ (.int .i64 v4) rfl (f_nil (f_ret (.tmp rfl (.nil)) rfl)))))
   ·exact bF 16 h6 rfl (f_skip (f_inBlock (f_region (p_ rfl (s_add rfl rfl) (m_ (.int .i64 (w64 (v4 + 1))) rfl (f_nil (f_inLoop (f_keep [0, 1, 7, 8] (ih v1 v2 v3 (w64 (v4 + 1)) p4.2)))))))))
  ·exact kF 9 h1 rfl (f_exit rfl (q_ (a_ (.int .i64 (-1)) rfl (f_nil (f_ret (.tmp rfl (.nil)) rfl)))))

theorem sim174 {app : App} (happ : AppSim prog app) {a0 : Sl} {a1 : AV} {H : Hp} {p : Int × Hp} (h : r174 app a0 a1 H = some p) : CallSim prog 174 [.sl a0, a1] H (.int .i64 p.1) p.2 := by
 refine callSim (fn := f174) (ret := ret174) func174 rfl Tryz.ntmps174 rfl ?_ h
 unfold r174
 exact q_ (a_ (.int .i64 0) rfl (f_nil (f_seq (q_ (m_ (.sl a0) rfl (p_ rfl (s_lenS rfl underlying25 rfl) (m_ (.int .i64 0) rfl (f_nil (f_block (f_loop (f_keep [0, 1, 7, 8] (s174_l0 happ FUEL a0 a1 (a0.len : Int) 0 H))))))))))))

/- 121 slices.ContainsFunc[[]int,int] -/
theorem ok121 : FnOk prog 121 := ⟨⟨f121, func121, by kernel_rfl, rfl⟩⟩
theorem sim121 {app : App} (happ : AppSim prog app) {a0 : Sl} {a1 : AV} {H : Hp} {p : Bool × Hp} (h : r121 app a0 a1 H = some p) : CallSim prog 121 [.sl a0, a1] H (.bool p.1) p.2 := by
 refine callSim (fn := f121) (ret := ret121) func121 rfl Tryz.ntmps121 rfl ?_ h
 unfold r121
 exact q_ (a_ (.bool false) rfl (n_ (m_ (.sl a0) rfl (m_ a1 rfl (o_bind fun p1 hp1 => p_ rfl (s_callF rfl ok174 (sim174 happ hp1)) (p_ rfl (s_geq rfl rfl) (a_ (.bool (decide (0 ≤ p1.1))) rfl (f_nil (f_ret (.tmp rfl (.nil)) rfl)))))))))

/- 79 (*congou/chest.Chest).has -/
theorem ok79 : FnOk prog 79 := ⟨⟨f79, func79, by kernel_rfl, rfl⟩⟩
theorem sim79 {app : App} (happ : AppSim prog app) {a0b : Nat} {a0o : Nat} {a1 : Sl} {H : Hp} {p : Bool × Hp} (h : r79 app a0b a0o a1 H = some p) : CallSim prog 79 [.ptr a0b a0o, .sl a1] H (.bool p.1) p.2 := by
 refine callSim (fn := f79) (ret := ret79) func79 rfl Tryz.ntmps79 rfl ?_ h
 unfold r79
 exact q_ (p_ rfl (s_box1 (v := .ptr a0b a0o) rfl rfl) (a_ (.bool false) rfl (o_hp fun H1 hH1 => n_ (m_ (.sl a1) rfl (p_ rfl (s_makeFunc rfl rfl) (o_bind fun p2 hp2 => p_ rfl (s_callF rfl ok121 (sim121 happ hp2)) (p_ rfl (s_not rfl) (a_ (.bool (!p2.1)) rfl (f_nil (f_ret (.tmp rfl (.nil)) rfl))))))))))

/- 40 (*congou/chest.Chest).Go -/
theorem ok40 : FnOk prog 40 := ⟨⟨f40, func40, by kernel_rfl, rfl⟩⟩
theorem sim40 {app : App} (happ : AppSim prog app) {a0b : Nat} {a0o : Nat} {a1 : Int} {H : Hp} {p : Int × Hp} (h : r40 app a0b a0o a1 H = some p) : CallSim prog 40 [.ptr a0b a0o, .int .i64 a1] H (.int .i64 p.1) p.2 := by
 refine callSim (fn := f40) (ret := ret40) func40 rfl Tryz.ntmps40 rfl ?_ h
 unfold r40
 refine q_ (a_ (.int .i64 0) rfl (f_nil (f_seq (f_block (q_ (m_ (.ptr a0b a0o) rfl (o_bind fun p1 hp1 => p_ rfl (s_callF rfl ok60 (sim60 hp1)) (a_ (.bool p1.1) rfl (f_nil ?_)))))))))
 refine f_if (fun h2 => ?_) (fun h2 => ?_)
 ·exact bT 5 h2 rfl (q_ (a_ (.int .i64 1) rfl (f_nil (f_ret (.tmp rfl (.nil)) rfl))))
 ·refine bF 5 h2 rfl (q_ (m_ (.ptr a0b a0o) rfl (m_ (.int .i64 a1) rfl (p_ rfl (s_buildSlice (cs := [.int .i64 a1]) underlying25 ty3 (by decide) (by decide) rfl (by decide) rfl) (o_bind fun p3 hp3 => p_ rfl (s_callF rfl ok79 (sim79 happ hp3)) (p_ rfl (s_not rfl) (a_ (.bool (!p3.1)) rfl (f_nil ?_))))))))
  refine f_if (fun h4 => ?_) (fun h4 => ?_)
  ·refine f_know 8 rfl (bool_notT h4) (f_condF rfl (f_skip (f_inBlock (q_ (m_ (.ptr a0b a0o) rfl (m_ (.int .i64 a1) rfl (p_ rfl (s_nilCheck rfl) (p_ rfl (s_fieldAddr underlying118 rfl ty3 rfl) (o_bind fun H5 hH5 => p_ rfl (s_store (s := 1) ty3 rfl rfl rfl hH5) (n_ (a_ (.int .i64 0) rfl ?_)))))))))))
   exact f_nil (f_ret (.tmp rfl (.nil)) rfl)
  ·exact f_know 8 rfl (bool_notF h4) (f_condT rfl (q_ (a_ (.int .i64 2) rfl (f_nil (f_ret (.tmp rfl (.nil)) rfl)))))

/- 47 congou/chest.New -/
theorem ok47 : FnOk prog 47 := ⟨⟨f47, func47, by kernel_rfl, rfl⟩⟩
theorem sim47 {H : Hp} {p : (Nat × Nat) × Hp} (h : r47 H = some p) : CallSim prog 47 [] H (.ptr p.1.1 p.1.2) p.2 := by
 refine callSim (fn := f47) (ret := ret47) func47 rfl Tryz.ntmps47 rfl ?_ h
 unfold r47
 exact q_ (a_ (.nilptr) rfl (n_ (p_ rfl (s_build (cs := [.sl ⟨true, 0, 0, 0, 0, 0⟩, .sl ⟨true, 0, 0, 0, 0, 0⟩, .int .i64 0, .int .i64 0, .int .i64 0, .int .i64 0, .sl ⟨true, 0, 0, 0, 0, 0⟩]) underlying150 ty150 rfl pl150 rfl) (p_ rfl (s_box (v := .agg [.sl ⟨true, 0, 0, 0, 0, 0⟩, .sl ⟨true, 0, 0, 0, 0, 0⟩, .int .i64 0, .int .i64 0, .int .i64 0, .int .i64 0, .sl ⟨true, 0, 0, 0, 0, 0⟩]) rfl rfl) (p_ rfl (s_build (cs := [.str (ByteArray.mk #[]), .int .i64 0, .ptr H.n 0]) underlying120 ty120 rfl pl120 rfl) (p_ rfl (s_buildSlice (cs := [.str (ByteArray.mk #[]), .int .i64 0, .ptr H.n 0]) underlying116 ty120 (by decide) (by decide) rfl (by decide) rfl) (p_ rfl (s_build (cs := [.sl ⟨false, (H.push (.cells [.sl ⟨true, 0, 0, 0, 0, 0⟩, .sl ⟨true, 0, 0, 0, 0, 0⟩, .int .i64 0, .int .i64 0, .int .i64 0, .int .i64 0, .sl ⟨true, 0, 0, 0, 0, 0⟩] false)).n, 0, 1, 1, 0⟩, .int .i64 0]) underlying118 ty118 rfl pl118 rfl) (p_ rfl (s_box (v := .agg [.sl ⟨false, (H.push (.cells [.sl ⟨true, 0, 0, 0, 0, 0⟩, .sl ⟨true, 0, 0, 0, 0, 0⟩, .int .i64 0, .int .i64 0, .int .i64 0, .int .i64 0, .sl ⟨true, 0, 0, 0, 0, 0⟩] false)).n, 0, 1, 1, 0⟩, .int .i64 0]) rfl rfl) (a_ (.ptr (((H.push (.cells [.sl ⟨true, 0, 0, 0, 0, 0⟩, .sl ⟨true, 0, 0, 0, 0, 0⟩, .int .i64 0, .int .i64 0, .int .i64 0, .int .i64 0, .sl ⟨true, 0, 0, 0, 0, 0⟩] false)).push (.cells [.str (ByteArray.mk #[]), .int .i64 0, .ptr H.n 0] false)).n) 0) rfl (o_hp fun H1 hH1 => f_nil (f_ret (.tmp rfl (.nil)) rfl)))))))))))

end Go.Lt.P10
