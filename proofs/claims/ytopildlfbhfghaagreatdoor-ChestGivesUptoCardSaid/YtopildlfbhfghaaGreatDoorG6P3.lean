/- PRINTED BY A PROGRAM OF OURS: what each function that 'ChestGives' reaches computes on the abstract heap, and that the translated code does just that. Nothing is asked of the input. -/
import Derived.Test.YtopildlfbhfghaaGreatDoorG6P2
set_option linter.unusedVariables false
set_option linter.unusedSimpArgs false
set_option maxRecDepth 100000
set_option maxHeartbeats 4000000
namespace Go.Lt.P10
open Go Go.Lt Go.Proofs Go.Proofs.Tryz
/- 80 (*congou/chest.state).text -/
theorem ok80 : FnOk prog 80 := ⟨⟨f80, func80, by kernel_rfl, rfl⟩⟩
theorem s80_l1 {app : App} (happ : AppSim prog app) : ∀ (k_ v1 v2 : Nat) (v3 v4 : Sl) (v5 v6 : Int) (H : Hp), Fin prog f80 ret80 79 (todoAt (bodyOf f80) [1, 1, 1, 1, 1, 1, 1, 0, 1, 0, 0] []) [(3, .ptr v1 0), (6, .fn 132 [] [.ptr v2 0]), (7, .sl v3), (57, .sl v4), (58, .int .i64 v5), (59, .int .i64 v6)] H (r80_l1 app k_ v1 v2 v3 v4 v5 v6 H) := by
 intro k_
 induction k_ with
 | zero => intro _ _ _ _ _ _ _; exact f_none
 | succ k_ ih =>
  intro v1 v2 v3 v4 v5 v6 H
  rw [r80_l1]
  refine q_ (p_ rfl (s_lss rfl rfl) (f_nil (f_seq ?_)))
  refine f_if (fun h1 => ?_) (fun h1 => ?_)
  ·refine kT 60 h1 rfl (f_skip (f_seq (f_block (q_ (o_ck fun g2 => p_ rfl (s_idx underlying27 ty101 rfl rfl g2) (o_bind fun x3 hx3 => o_bind fun x4 hx4 => p_ rfl (s_loads underlying101 rfl ty101 rfl (lds_cons (ldI_eq hx3) (lds_cons (ldI_eq hx4) (lds_nil)))) (p_ rfl (s_alloc (zs := [.int .i64 0, .int .i64 0]) ty101 rfl rfl) (o_bind fun H5 hH5 => p_ rfl (s_stores ty101 rfl rfl rfl rfl hH5 (Nat.le_of_eq (sts_mono hH5).symm)) (f_nil ?_)))))))))
   refine f_bind fun x6 hx6 => f_bind fun p7 hp7 => f_bind fun x8 hx8 => f_ck fun g9 => f_bind fun x10 hx10 => f_bind fun p11 hp11 => f_bind fun x12 hx12 => f_ck fun g13 => f_bind fun x14 hx14 => f_ck fun g15 => f_draw (Φ := fun H_ => H_.ld H.n (0 + (1 : Int).toNat * 1) = some (.int .i64 x10)) (lim := 7) [0, 0, 1, 2, 0, 0, 0, 2, 0, 2, 2, 0] (tm (.sl v3) rfl (t_ rfl (fun _ => s_idxA underlying101 ty3 rfl rfl (by decide)) (tr rfl (s_load underlying3 rfl rfl (ldI_eq hx6)) (Trc.eff rfl rfl rfl (fun _ => ldI_eq g15) (s_callA happ rfl hp7) (Trc.know 66 rfl (asStr_eq hx8) (t_ rfl (fun _ => s_addStr rfl rfl g9) (t_ rfl (fun _ => s_idxA underlying101 ty3 rfl rfl (by decide)) (Trc.pure rfl rfl rfl (.inr ⟨by decide +kernel, fun _ hp_ => s_load underlying3 rfl rfl hp_⟩) (Trc.eff rfl rfl rfl (fun _ => ldI_eq hx10) (s_callA happ rfl hp11) (Trc.know 70 rfl (asStr_eq hx12) (t_ rfl (fun _ => s_addStr rfl rfl g13) (Trc.eff rfl rfl rfl (fun h_ => absurd h_ (by decide +kernel)) (s_buildSlice (cs := [.str ((x8 ++ (ByteArray.mk #[44])) ++ x12)]) underlying22 ty9 (by decide) (by decide) rfl (by decide) rfl) (Trc.eff rfl rfl rfl (fun h_ => absurd h_ (by decide +kernel)) (s_ap rfl rfl underlying22 underlying22 ty9 rfl rfl rfl rfl rfl rfl rfl hx14) (t_ rfl (fun _ => s_as (v := .sl x14.1) rfl) (Trc.nil (fun h_ => absurd h_ (by decide +kernel))))))))))))))))) rfl (by decide +kernel) mixed (f_inBlock (f_region (p_ rfl (s_add rfl rfl) (m_ (.int .i64 (w64 (v6 + 1))) rfl (f_nil ?_)))))
   exact f_inLoop (f_keep [3, 6, 7, 57, 58, 59] (ih v1 v2 x14.1 v4 v5 (w64 (v6 + 1)) x14.2))
  ·refine kF 60 h1 rfl (f_exit rfl (q_ (m_ (.fn 132 [] [.ptr v2 0]) rfl (m_ (.sl v3) rfl (o_bind fun p16 hp16 => p_ rfl (s_callv happ rfl rfl hp16) (n_ (o_bind fun p17 hp17 => o_bind fun x18 hx18 => p_ rfl (s_callA happ rfl hp17) (o_know 78 rfl (asStr_eq hx18) ?_))))))))
   exact a_ (.str x18) rfl (f_nil (f_ret (.tmp rfl (.nil)) rfl))

theorem s80_l0 {app : App} (happ : AppSim prog app) : ∀ (k_ v1 v2 v3 : Nat) (v4 : Sl) (v5 v6 : Int) (H : Hp), Fin prog f80 ret80 79 (todoAt (bodyOf f80) [1, 1, 0, 1, 0, 0] []) [(0, .ptr v1 v2), (3, .ptr v3 0), (13, .sl v4), (14, .int .i64 v5), (15, .int .i64 v6)] H (r80_l0 app k_ v1 v2 v3 v4 v5 v6 H) := by
 intro k_
 induction k_ with
 | zero => intro _ _ _ _ _ _ _; exact f_none
 | succ k_ ih =>
  intro v1 v2 v3 v4 v5 v6 H
  rw [r80_l0]
  refine q_ (p_ rfl (s_lss rfl rfl) (f_nil (f_seq ?_)))
  refine f_if (fun h1 => ?_) (fun h1 => ?_)
  ·refine kT 16 h1 rfl (f_skip (f_seq (f_block (q_ (o_ck fun g2 => p_ rfl (s_idx underlying147 ty186 rfl rfl g2) (o_bind fun x3 hx3 => o_bind fun x4 hx4 => p_ rfl (s_loads underlying186 rfl ty186 rfl (lds_cons (ldStr_eq hx3) (lds_cons (ldI_eq hx4) (lds_nil)))) (p_ rfl (s_alloc (zs := [.str (ByteArray.mk #[]), .int .i64 0]) ty186 rfl rfl) (o_bind fun H5 hH5 => p_ rfl (s_stores ty186 rfl rfl rfl rfl hH5 (Nat.le_of_eq (sts_mono hH5).symm)) (f_nil ?_)))))))))
   refine f_bind fun x6 hx6 => f_ck fun g7 => f_ck fun g8 => f_bind fun x9 hx9 => f_bind fun p10 hp10 => f_bind fun x11 hx11 => f_ck fun g12 => f_ck fun g13 => f_bind fun p14 hp14 => f_bind fun x15 hx15 => f_ck fun g16 => f_bind fun x17 hx17 => f_bind fun x18 hx18 => f_bind fun x19 hx19 => f_ck fun g20 => f_draw (Φ := fun H_ => H_.ld H.n (0 + 0) = some (.str x6)) (lim := 9) [0, 0, 0, 0, 0, 1, 2, 0, 0, 2] (t_ rfl (fun _ => s_fieldAddr underlying186 rfl ty9 rfl) (Trc.pure rfl rfl rfl (.inr ⟨by decide +kernel, fun _ hp_ => s_load underlying9 rfl rfl hp_⟩) (t_ rfl (fun _ => s_addStr rfl rfl g7) (t_ rfl (fun _ => s_addStr rfl rfl g8) (t_ rfl (fun _ => s_fieldAddr underlying186 rfl ty3 rfl) (tr rfl (s_load underlying3 rfl rfl (ldI_eq hx9)) (Trc.eff rfl rfl rfl (fun _ => ldStr_eq hx6) (s_callA happ rfl hp10) (Trc.know 25 rfl (asStr_eq hx11) (t_ rfl (fun _ => s_addStr rfl rfl g12) (t_ rfl (fun _ => s_addStr rfl rfl g13) (Trc.eff rfl rfl rfl (fun _ => ldStr_eq g20) (s_callA happ rfl hp14) (Trc.know 28 rfl (tupOf2 hx15 g16 (gete hx17 (asI_eq hx18)) (gete hx19 (rfl))) (Trc.nil (fun h_ => absurd h_ (by decide +kernel))))))))))))))) rfl (by decide +kernel) mixed ?_
   exact f_inBlock (f_region (p_ rfl (s_add rfl rfl) (m_ (.int .i64 (w64 (v6 + 1))) rfl (f_nil (f_inLoop (f_keep [0, 3, 13, 14, 15] (ih v1 v2 v3 v4 v5 (w64 (v6 + 1)) p14.2)))))))
  ·refine kF 16 h1 rfl (f_exit rfl (q_ (p_ rfl (s_makeFunc rfl rfl) (a_ (.fn 132 [] [.ptr v3 0]) rfl (n_ (m_ (.fn 132 [] [.ptr v3 0]) rfl (m_ (.ptr v1 v2) rfl (m_ (.ptr v1 v2) rfl (p_ rfl (s_nilCheck rfl) (p_ rfl (s_fieldAddr underlying150 rfl ty25 rfl) (o_bind fun x21 hx21 => ?_)))))))))))
   refine p_ rfl (s_load underlying25 rfl rfl (ldSl_eq hx21)) (o_bind fun p22 hp22 => p_ rfl (s_callF rfl ok133 (sim133 hp22)) (o_bind fun p23 hp23 => p_ rfl (s_callv happ rfl rfl hp23) (f_nil (f_seq (f_bind fun p24 hp24 => f_bind fun p25 hp25 => f_bind fun p26 hp26 => f_draw (Φ := fun _ => True) (lim := 1000000) [0, 0, 0, 0, 0, 0, 0, 0, 0, 0, 0, 2, 2, 2, 2] (tm (.fn 132 [] [.ptr v3 0]) rfl (tm (.ptr v1 v2) rfl (t_ rfl (fun _ => s_nilCheck rfl) (t_ rfl (fun _ => s_fieldAddr underlying150 rfl ty148 rfl) (t_ rfl (fun _ => s_idxA underlying148 ty101 rfl rfl (by decide)) (t_ rfl (fun _ => s_sliceA underlying101 ty3 rfl rfl rfl (by decide)) (tm (.ptr v1 v2) rfl (t_ rfl (fun _ => s_nilCheck rfl) (t_ rfl (fun _ => s_fieldAddr underlying150 rfl ty148 rfl) (t_ rfl (fun _ => s_idxA underlying148 ty101 rfl rfl (by decide)) (t_ rfl (fun _ => s_sliceA underlying101 ty3 rfl rfl rfl (by decide)) (Trc.eff rfl rfl rfl (fun _ => trivial) (s_buildSlice (cs := [.sl ⟨false, v1, ((v2 + 2) + (0 : Int).toNat * 2) + (0 : Int).toNat * 1, (((2 : Nat) : Int) : Int).toNat - (0 : Int).toNat, 2 - (0 : Int).toNat, 0⟩, .sl ⟨false, v1, ((v2 + 2) + (1 : Int).toNat * 2) + (0 : Int).toNat * 1, (((2 : Nat) : Int) : Int).toNat - (0 : Int).toNat, 2 - (0 : Int).toNat, 0⟩]) underlying31 ty25 (by decide) (by decide) rfl (by decide) rfl) (Trc.eff rfl rfl rfl (fun _ => trivial) (s_callF rfl ok135 (sim135 hp24)) (Trc.eff rfl rfl rfl (fun _ => trivial) (s_callF rfl ok134 (sim134 happ hp25)) (Trc.eff rfl rfl rfl (fun _ => trivial) (s_callv happ rfl rfl hp26) (Trc.nil (fun _ => trivial))))))))))))))))) rfl (by decide +kernel) mixed (q_ (a_ (.sl ⟨true, 0, 0, 0, 0, 0⟩) rfl (f_nil (f_seq ?_)))))))))
   exact q_ (m_ (.ptr v1 v2) rfl (p_ rfl (s_nilCheck rfl) (p_ rfl (s_fieldAddr underlying150 rfl ty27 rfl) (o_bind fun x27 hx27 => p_ rfl (s_load underlying27 rfl rfl (ldSl_eq hx27)) (p_ rfl (s_lenS rfl underlying27 rfl) (m_ (.int .i64 0) rfl (f_nil (f_block (f_loop (f_keep [3, 6, 7, 57, 58, 59] (s80_l1 happ FUEL v3 v3 ⟨true, 0, 0, 0, 0, 0⟩ x27 (x27.len : Int) 0 p26.2)))))))))))

theorem sim80 {app : App} (happ : AppSim prog app) {a0b : Nat} {a0o : Nat} {H : Hp} {p : ByteArray × Hp} (h : r80 app a0b a0o H = some p) : CallSim prog 80 [.ptr a0b a0o] H (.str p.1) p.2 := by
 refine callSim (fn := f80) (ret := ret80) func80 rfl Tryz.ntmps80 rfl ?_ h
 unfold r80
 refine q_ (a_ (.str (ByteArray.mk #[])) rfl (n_ (p_ rfl (s_allocB rfl ty184) (o_hp fun H1 hH1 => f_nil (f_seq (q_ (m_ (.ptr a0b a0o) rfl (p_ rfl (s_nilCheck rfl) (p_ rfl (s_fieldAddr underlying150 rfl ty147 rfl) (o_bind fun x2 hx2 => ?_))))))))))
 exact p_ rfl (s_load underlying147 rfl rfl (ldSl_eq hx2)) (p_ rfl (s_lenS rfl underlying147 rfl) (m_ (.int .i64 0) rfl (f_nil (f_block (f_loop (f_keep [0, 3, 13, 14, 15] (s80_l0 happ FUEL a0b a0o H.n x2 (x2.len : Int) 0 H1)))))))

/- 41 (*congou/chest.Chest).State -/
theorem ok41 : FnOk prog 41 := ⟨⟨f41, func41, by kernel_rfl, rfl⟩⟩
theorem sim41 {app : App} (happ : AppSim prog app) {a0b : Nat} {a0o : Nat} {H : Hp} {p : ByteArray × Hp} (h : r41 app a0b a0o H = some p) : CallSim prog 41 [.ptr a0b a0o] H (.str p.1) p.2 := by
 refine callSim (fn := f41) (ret := ret41) func41 rfl Tryz.ntmps41 rfl ?_ h
 unfold r41
 refine q_ (a_ (.str (ByteArray.mk #[])) rfl (f_nil (f_seq (q_ (m_ (.ptr a0b a0o) rfl (o_bind fun p1 hp1 => p_ rfl (s_callF rfl ok60 (sim60 hp1)) (f_nil ?_)))))))
 refine f_if (fun h2 => ?_) (fun h2 => ?_)
 ·exact bT 4 h2 rfl (q_ (a_ (.str (ByteArray.mk #[])) rfl (f_nil (f_ret (.tmp rfl (.nil)) rfl))))
 ·exact bF 4 h2 rfl (f_skip (q_ (m_ (.ptr a0b a0o) rfl (o_bind fun p3 hp3 => p_ rfl (s_callF rfl ok61 (sim61 hp3)) (o_bind fun p4 hp4 => p_ rfl (s_callF rfl ok80 (sim80 happ hp4)) (a_ (.str p4.1) rfl (f_nil (f_ret (.tmp rfl (.nil)) rfl))))))))

/- 31 congou/congoulaw10.stocks -/
theorem ok31 : FnOk prog 31 := ⟨⟨f31, func31, by kernel_rfl, rfl⟩⟩
theorem s31_j1 {app : App} (happ : AppSim prog app) (kt0 : Int → Int → Sl → Int → Int → Hp → Option ((Int × Int × Bool) × Hp)) (hkt0 : ∀ (v1 v2 : Int) (v3 : Sl) (v4 v5 : Int) (H : Hp), Fin prog f31 ret31 54 (todoAt (bodyOf f31) [1, 1, 0, 1, 0, 0] []) [(5, .int .i64 v1), (6, .int .i64 v2), (14, .sl v3), (15, .int .i64 v4), (16, .int .i64 v5)] H (kt0 v1 v2 v3 v4 v5 H)) (v1 v2 v3 : Int) (v4 : Sl) (v5 v6 : Int) (v7 : Bool) (H : Hp) : Fin prog f31 ret31 54 (todoAt (bodyOf f31) [1, 1, 0, 1, 0, 0, 1, 1, 0, 0, 1, 1, 1, 1, 1, 0, 1] []) [(5, .int .i64 v1), (6, .int .i64 v2), (10, .int .i64 v3), (14, .sl v4), (15, .int .i64 v5), (16, .int .i64 v6), (45, .bool v7)] H (r31_j1 app kt0 v1 v2 v3 v4 v5 v6 v7 H) := by
 unfold r31_j1
 refine f_if (fun h1 => ?_) (fun h1 => ?_)
 ·exact bT 45 h1 rfl (q_ (a_ (.int .i64 0) rfl (a_ (.int .i64 0) rfl (a_ (.bool false) rfl (f_nil (f_ret (.tmp rfl (.tmp rfl (.tmp rfl (.nil)))) rfl))))))
 ·refine bF 45 h1 rfl (f_skip (q_ (m_ (.int .i64 v1) rfl (m_ (.int .i64 v3) rfl (p_ rfl (s_add rfl rfl) (a_ (.int .i64 (w64 (v1 + v3))) rfl (f_nil (f_region (m_ (.int .i64 v2) rfl (p_ rfl (s_add rfl rfl) (a_ (.int .i64 (w64 (v2 + 1))) rfl (f_nil (f_inBlock ?_)))))))))))))
  exact f_region (p_ rfl (s_add rfl rfl) (m_ (.int .i64 (w64 (v6 + 1))) rfl (f_nil (f_inLoop (f_keep [5, 6, 14, 15, 16] (hkt0 (w64 (v1 + v3)) (w64 (v2 + 1)) v4 v5 (w64 (v6 + 1)) H))))))

theorem s31_l0 {app : App} (happ : AppSim prog app) : ∀ (k_ : Nat) (v1 v2 : Int) (v3 : Sl) (v4 v5 : Int) (H : Hp), Fin prog f31 ret31 54 (todoAt (bodyOf f31) [1, 1, 0, 1, 0, 0] []) [(5, .int .i64 v1), (6, .int .i64 v2), (14, .sl v3), (15, .int .i64 v4), (16, .int .i64 v5)] H (r31_l0 app k_ v1 v2 v3 v4 v5 H) := by
 intro k_
 induction k_ with
 | zero => intro _ _ _ _ _ _; exact f_none
 | succ k_ ih =>
  intro v1 v2 v3 v4 v5 H
  rw [r31_l0]
  refine q_ (p_ rfl (s_lss rfl rfl) (f_nil (f_seq ?_)))
  refine f_if (fun h1 => ?_) (fun h1 => ?_)
  ·refine kT 17 h1 rfl (f_skip (f_seq (f_block (q_ (o_ck fun g2 => p_ rfl (s_idx underlying22 ty9 rfl rfl g2) (o_bind fun x3 hx3 => p_ rfl (s_load underlying9 rfl rfl (ldStr_eq hx3)) (a_ (.str x3) rfl (n_ (m_ (.str x3) rfl ?_)))))))))
   refine o_bind fun p4 hp4 => p_ rfl (s_callF rfl ok52 (sim52 hp4)) (a_ (.sl p4.1) rfl (f_nil (f_seq (q_ (m_ (.sl p4.1) rfl (o_ck fun g5 => p_ rfl (s_idx underlying22 ty9 rfl rfl g5) (o_bind fun x6 hx6 => p_ rfl (s_load underlying9 rfl rfl (ldStr_eq hx6)) (p_ rfl (s_neStr rfl rfl) (f_nil ?_)))))))))
   refine f_if (fun h7 => ?_) (fun h7 => ?_)
   ·refine f_know 25 rfl (bool_notT h7) (f_condF rfl (f_skip (f_seq (q_ (m_ (.sl p4.1) rfl (p_ rfl (s_lenS rfl underlying22 rfl) (p_ rfl (s_neq rfl rfl) (f_nil ?_))))))))
    refine f_if (fun h8 => ?_) (fun h8 => ?_)
    ·exact kT 28 h8 rfl (q_ (a_ (.int .i64 0) rfl (a_ (.int .i64 0) rfl (a_ (.bool false) rfl (f_nil (f_ret (.tmp rfl (.tmp rfl (.tmp rfl (.nil)))) rfl))))))
    ·refine kF 28 h8 rfl (f_skip (q_ (m_ (.sl p4.1) rfl (o_ck fun g9 => p_ rfl (s_idx underlying22 ty9 rfl rfl g9) (o_bind fun x10 hx10 => p_ rfl (s_load underlying9 rfl rfl (ldStr_eq hx10)) (o_bind fun p11 hp11 => o_bind fun x12 hx12 => o_ck fun g13 => o_bind fun x14 hx14 => o_bind fun x15 hx15 => o_bind fun x16 hx16 => ?_))))))
     refine p_ rfl (s_callA happ rfl hp11) (o_know 33 rfl (tupOf2 hx12 g13 (gete hx14 (asI_eq hx15)) (gete hx16 (rfl))) (m_ (.tup [.int .i64 x15, x16]) rfl (p_ rfl (s_extract (r := .int .i64 x15) rfl rfl) (p_ rfl (s_extract (r := x16) rfl rfl) (a_ (.int .i64 x15) rfl (a_ x16 rfl (f_nil (f_seq (q_ (m_ x16 rfl (o_bind fun x17 hx17 => p_ rfl (s_neIfN underlying98 rfl rfl trivial hx17) (m_ (.bool x17) rfl ?_))))))))))))
     refine o_if (fun h18 => ?_) (fun h18 => ?_)
     ·exact o_know 38 rfl (bool_T h18) (no_ rfl (no_ rfl (p_ rfl (s_pickT (v := .bool true) rfl rfl) (m_ (.bool true) rfl (no_ rfl (no_ rfl (p_ rfl (s_pickT (v := .bool true) rfl rfl) (f_nil (f_keep [5, 6, 10, 14, 15, 16, 45] (s31_j1 happ _ ih v1 v2 x15 v3 v4 v5 true p11.2))))))))))
     ·refine o_know 38 rfl (bool_F h18) (m_ (.int .i64 x15) rfl (p_ rfl (s_lss rfl rfl) (p_ rfl (s_pickF (v := .bool (decide (x15 < 0))) rfl rfl) (m_ (.bool (decide (x15 < 0))) rfl ?_))))
      refine o_if (fun h19 => ?_) (fun h19 => ?_)
      ·exact o_know 42 rfl (dec_true h19) (no_ rfl (no_ rfl (p_ rfl (s_pickT (v := .bool true) rfl rfl) (f_nil (f_keep [5, 6, 10, 14, 15, 16, 45] (s31_j1 happ _ ih v1 v2 x15 v3 v4 v5 true p11.2))))))
      ·exact o_know 42 rfl (dec_false h19) (m_ (.int .i64 x15) rfl (p_ rfl (s_gtr rfl rfl) (p_ rfl (s_pickF (v := .bool (decide (20 < x15))) rfl rfl) (f_nil (f_keep [5, 6, 10, 14, 15, 16, 45] (s31_j1 happ _ ih v1 v2 x15 v3 v4 v5 (decide (20 < x15)) p11.2))))))
   ·exact f_know 25 rfl (bool_notF h7) (f_condT rfl (f_exit rfl (q_ (m_ (.int .i64 v1) rfl (m_ (.int .i64 v2) rfl (a_ (.int .i64 v1) rfl (a_ (.int .i64 v2) rfl (a_ (.bool true) rfl (f_nil (f_ret (.tmp rfl (.tmp rfl (.tmp rfl (.nil)))) rfl))))))))))
  ·exact kF 17 h1 rfl (f_exit rfl (q_ (m_ (.int .i64 v1) rfl (m_ (.int .i64 v2) rfl (a_ (.int .i64 v1) rfl (a_ (.int .i64 v2) rfl (a_ (.bool true) rfl (f_nil (f_ret (.tmp rfl (.tmp rfl (.tmp rfl (.nil)))) rfl)))))))))

theorem sim31 {app : App} (happ : AppSim prog app) {a0b : Nat} {a0o : Nat} {H : Hp} {p : (Int × Int × Bool) × Hp} (h : r31 app a0b a0o H = some p) : CallSim prog 31 [.ptr a0b a0o] H (.tup [.int .i64 p.1.1, .int .i64 p.1.2.1, .bool p.1.2.2]) p.2 := by
 refine callSim (fn := f31) (ret := ret31) func31 rfl Tryz.ntmps31 rfl ?_ h
 unfold r31
 refine q_ (a_ (.int .i64 0) rfl (a_ (.int .i64 0) rfl (a_ (.bool false) rfl (n_ (a_ (.int .i64 0) rfl (a_ (.int .i64 0) rfl (f_nil (f_seq (q_ (m_ (.ptr a0b a0o) rfl (o_bind fun p1 hp1 => ?_)))))))))))
 exact p_ rfl (s_callF rfl ok41 (sim41 happ hp1)) (o_bind fun p2 hp2 => p_ rfl (s_callF rfl ok52 (sim52 hp2)) (p_ rfl (s_lenS rfl underlying22 rfl) (m_ (.int .i64 0) rfl (f_nil (f_block (f_loop (f_keep [5, 6, 14, 15, 16] (s31_l0 happ FUEL 0 0 p2.1 (p2.1.len : Int) 0 p2.2))))))))

/- 62 (*congou/chest.state).ask -/
theorem ok62 : FnOk prog 62 := ⟨⟨f62, func62, by kernel_rfl, rfl⟩⟩
theorem s62_j0 {app : App} (happ : AppSim prog app) (v1 v2 v3 : ByteArray) (v4 : AV) (H : Hp) : Fin prog f62 ret62 74 (todoAt (bodyOf f62) [1, 1, 1, 1] []) [(1, .str v1), (6, .str v2), (9, .str v3), (10, v4)] H (r62_j0 app v1 v2 v3 v4 H) := by
 unfold r62_j0
 refine q_ (m_ (.str v3) rfl (m_ (.str v1) rfl (o_bind fun p1 hp1 => p_ rfl (s_callF rfl ok108 (sim108 happ hp1)) (m_ (.tup [.agg [.sl p1.1.1, .sl p1.1.2.1], .bool p1.1.2.2]) rfl (p_ rfl (s_extract (r := .agg [.sl p1.1.1, .sl p1.1.2.1]) rfl rfl) (p_ rfl (s_extract (r := .bool p1.1.2.2) rfl rfl) (p_ rfl (s_alloc (zs := [.sl ⟨true, 0, 0, 0, 0, 0⟩, .sl ⟨true, 0, 0, 0, 0, 0⟩]) ty167 rfl rfl) (o_bind fun H2 hH2 => p_ rfl (s_stores ty167 rfl rfl rfl rfl hH2 (Nat.le_of_eq (sts_mono hH2).symm)) (a_ (.bool p1.1.2.2) rfl (f_nil (f_seq (f_seq ?_))))))))))))
 refine f_region (m_ (.bool p1.1.2.2) rfl (p_ rfl (s_not rfl) (f_nil ?_)))
 refine f_if (fun h3 => ?_) (fun h3 => ?_)
 ·refine f_know 59 rfl (bool_notT h3) (f_condF rfl (f_skip (q_ (m_ v4 rfl (o_bind fun x4 hx4 => o_bind fun x5 hx5 => p_ rfl (s_loads underlying167 rfl ty167 rfl (lds_cons (ldSl_eq hx4) (lds_cons (ldSl_eq hx5) (lds_nil)))) (o_bind fun p6 hp6 => o_bind fun x7 hx7 => o_ck fun g8 => o_bind fun x9 hx9 => o_bind fun x10 hx10 => o_bind fun x11 hx11 => o_bind fun x12 hx12 => ?_))))))
  refine p_ rfl (s_callv happ rfl rfl hp6) (o_know 63 rfl (tupOf2 hx7 g8 (gete hx9 (asSl_eq hx10)) (gete hx11 (asI_eq hx12))) (m_ (.tup [.sl x10, .int .i64 x12]) rfl (p_ rfl (s_extract (r := .sl x10) rfl rfl) (p_ rfl (s_extract (r := .int .i64 x12) rfl rfl) (a_ (.sl x10) rfl (a_ (.int .i64 x12) rfl (f_nil (f_seq (q_ (m_ (.int .i64 x12) rfl (p_ rfl (s_neq rfl rfl) (f_nil ?_))))))))))))
  refine f_if (fun h13 => ?_) (fun h13 => ?_)
  ·exact kT 67 h13 rfl (q_ (m_ (.int .i64 x12) rfl (a_ (.str (ByteArray.mk #[])) rfl (a_ (.int .i64 x12) rfl (f_nil (f_ret (.tmp rfl (.tmp rfl (.nil))) rfl))))))
  ·refine kF 67 h13 rfl (f_skip (q_ (m_ (.str v2) rfl (p_ rfl (s_buildSlice (cs := [.str v2]) underlying22 ty9 (by decide) (by decide) rfl (by decide) rfl) (m_ (.sl x10) rfl (o_bind fun x14 hx14 => o_ck fun g15 => o_bind fun x16 hx16 => p_ rfl (s_append rfl rfl underlying22 underlying22 ty9 (by decide) rfl (by decide) rfl rfl hx14 g15 hx16) (o_bind fun p17 hp17 => o_bind fun x18 hx18 => p_ rfl (s_callA happ rfl hp17) (o_know 73 rfl (asStr_eq hx18) ?_))))))))
   exact a_ (.str x18) rfl (a_ (.int .i64 0) rfl (f_nil (f_ret (.tmp rfl (.tmp rfl (.nil))) rfl)))
 ·exact f_know 59 rfl (bool_notF h3) (f_condT rfl (q_ (a_ (.str (ByteArray.mk #[])) rfl (a_ (.int .i64 3) rfl (f_nil (f_ret (.tmp rfl (.tmp rfl (.nil))) rfl))))))

theorem sim62 {app : App} (happ : AppSim prog app) {a0b : Nat} {a0o : Nat} {a1 : ByteArray} {H : Hp} {p : (ByteArray × Int) × Hp} (h : r62 app a0b a0o a1 H = some p) : CallSim prog 62 [.ptr a0b a0o, .str a1] H (.tup [.str p.1.1, .int .i64 p.1.2]) p.2 := by
 refine callSim (fn := f62) (ret := ret62) func62 rfl Tryz.ntmps62 rfl ?_ h
 unfold r62
 refine q_ (a_ (.str (ByteArray.mk #[])) rfl (a_ (.int .i64 0) rfl (n_ (m_ (.str a1) rfl (o_bind fun p1 hp1 => p_ rfl (s_callF rfl ok97 (sim97 hp1)) (m_ (.tup [.str p1.1.1, .str p1.1.2.1, .bool p1.1.2.2]) rfl (p_ rfl (s_extract (r := .str p1.1.1) rfl rfl) (p_ rfl (s_extract (r := .str p1.1.2.1) rfl rfl) (p_ rfl (s_extract (r := .bool p1.1.2.2) rfl rfl) (a_ (.str p1.1.1) rfl (a_ (.str p1.1.2.1) rfl ?_)))))))))))
 refine a_ (.bool p1.1.2.2) rfl (n_ (m_ (.ptr a0b a0o) rfl (p_ rfl (s_makeFunc rfl rfl) (a_ (.str (ByteArray.mk #[])) rfl (a_ (.fn 98 [.ptr a0b a0o] []) rfl (f_nil (f_seq (q_ (m_ (.str p1.1.1) rfl (f_nil (f_block (f_seq ?_))))))))))))
 refine f_region (p_ rfl (s_eqStr rfl rfl) (a_ (.bool (strEq p1.1.1 (ByteArray.mk #[103, 97, 112]))) rfl (f_nil ?_)))
 refine f_if (fun h2 => ?_) (fun h2 => ?_)
 ·exact bT 24 h2 rfl (f_skip (f_inBlock (f_keep [1, 6, 9, 10] (s62_j0 happ a1 p1.1.1 (ByteArray.mk #[]) (.fn 98 [.ptr a0b a0o] []) p1.2))))
 ·refine bF 24 h2 rfl (q_ (p_ rfl (s_eqStr rfl rfl) (a_ (.bool (strEq p1.1.1 (ByteArray.mk #[104, 101, 97, 118, 121]))) rfl (f_nil ?_))))
  refine f_if (fun h3 => ?_) (fun h3 => ?_)
  ·exact bT 26 h3 rfl (f_region (m_ (.ptr a0b a0o) rfl (p_ rfl (s_makeFunc rfl rfl) (a_ (.str (ByteArray.mk #[100])) rfl (a_ (.fn 99 [.ptr a0b a0o] []) rfl (f_nil (f_inBlock (f_keep [1, 6, 9, 10] (s62_j0 happ a1 p1.1.1 (ByteArray.mk #[100]) (.fn 99 [.ptr a0b a0o] []) p1.2)))))))))
  ·refine bF 26 h3 rfl (q_ (p_ rfl (s_eqStr rfl rfl) (a_ (.bool (strEq p1.1.1 (ByteArray.mk #[111, 102, 116, 101, 110]))) rfl (f_nil ?_))))
   refine f_if (fun h4 => ?_) (fun h4 => ?_)
   ·exact bT 30 h4 rfl (f_region (m_ (.ptr a0b a0o) rfl (p_ rfl (s_makeFunc rfl rfl) (a_ (.str (ByteArray.mk #[110])) rfl (a_ (.fn 100 [.ptr a0b a0o] []) rfl (f_nil (f_inBlock (f_keep [1, 6, 9, 10] (s62_j0 happ a1 p1.1.1 (ByteArray.mk #[110]) (.fn 100 [.ptr a0b a0o] []) p1.2)))))))))
   ·refine bF 30 h4 rfl (q_ (p_ rfl (s_eqStr rfl rfl) (a_ (.bool (strEq p1.1.1 (ByteArray.mk #[116, 97, 105, 108]))) rfl (f_nil ?_))))
    refine f_if (fun h5 => ?_) (fun h5 => ?_)
    ·exact bT 34 h5 rfl (f_region (m_ (.ptr a0b a0o) rfl (p_ rfl (s_makeFunc rfl rfl) (a_ (.fn 101 [.ptr a0b a0o] []) rfl (f_nil (f_inBlock (f_keep [1, 6, 9, 10] (s62_j0 happ a1 p1.1.1 (ByteArray.mk #[]) (.fn 101 [.ptr a0b a0o] []) p1.2))))))))
    ·refine bF 34 h5 rfl (q_ (p_ rfl (s_eqStr rfl rfl) (a_ (.bool (strEq p1.1.1 (ByteArray.mk #[102, 97, 105, 114]))) rfl (f_nil ?_))))
     refine f_if (fun h6 => ?_) (fun h6 => ?_)
     ·exact bT 38 h6 rfl (f_region (m_ (.ptr a0b a0o) rfl (p_ rfl (s_makeFunc rfl rfl) (a_ (.str (ByteArray.mk #[100, 100])) rfl (a_ (.fn 102 [.ptr a0b a0o] []) rfl (f_nil (f_inBlock (f_keep [1, 6, 9, 10] (s62_j0 happ a1 p1.1.1 (ByteArray.mk #[100, 100]) (.fn 102 [.ptr a0b a0o] []) p1.2)))))))))
     ·refine bF 38 h6 rfl (q_ (p_ rfl (s_eqStr rfl rfl) (a_ (.bool (strEq p1.1.1 (ByteArray.mk #[114, 111, 117, 110, 100]))) rfl (f_nil ?_))))
      refine f_if (fun h7 => ?_) (fun h7 => ?_)
      ·exact bT 42 h7 rfl (f_region (a_ (.str (ByteArray.mk #[100])) rfl (a_ (.fn 103 [] []) rfl (f_nil (f_inBlock (f_keep [1, 6, 9, 10] (s62_j0 happ a1 p1.1.1 (ByteArray.mk #[100]) (.fn 103 [] []) p1.2)))))))
      ·refine bF 42 h7 rfl (q_ (p_ rfl (s_eqStr rfl rfl) (a_ (.bool (strEq p1.1.1 (ByteArray.mk #[99, 117, 114, 118, 101]))) rfl (f_nil ?_))))
       refine f_if (fun h8 => ?_) (fun h8 => ?_)
       ·exact bT 44 h8 rfl (f_region (a_ (.str (ByteArray.mk #[100])) rfl (a_ (.fn 104 [] []) rfl (f_nil (f_inBlock (f_keep [1, 6, 9, 10] (s62_j0 happ a1 p1.1.1 (ByteArray.mk #[100]) (.fn 104 [] []) p1.2)))))))
       ·refine bF 44 h8 rfl (q_ (p_ rfl (s_eqStr rfl rfl) (a_ (.bool (strEq p1.1.1 (ByteArray.mk #[115, 113, 117, 97, 114, 101]))) rfl (f_nil ?_))))
        refine f_if (fun h9 => ?_) (fun h9 => ?_)
        ·exact bT 46 h9 rfl (f_region (a_ (.str (ByteArray.mk #[100, 100, 100, 100])) rfl (a_ (.fn 105 [] []) rfl (f_nil (f_inBlock (f_keep [1, 6, 9, 10] (s62_j0 happ a1 p1.1.1 (ByteArray.mk #[100, 100, 100, 100]) (.fn 105 [] []) p1.2)))))))
        ·refine bF 46 h9 rfl (q_ (p_ rfl (s_eqStr rfl rfl) (a_ (.bool (strEq p1.1.1 (ByteArray.mk #[114, 111, 119]))) rfl (f_nil ?_))))
         refine f_if (fun h10 => ?_) (fun h10 => ?_)
         ·exact bT 48 h10 rfl (f_region (a_ (.str (ByteArray.mk #[100, 100])) rfl (a_ (.fn 106 [] []) rfl (f_nil (f_inBlock (f_keep [1, 6, 9, 10] (s62_j0 happ a1 p1.1.1 (ByteArray.mk #[100, 100]) (.fn 106 [] []) p1.2)))))))
         ·refine bF 48 h10 rfl (q_ (p_ rfl (s_eqStr rfl rfl) (a_ (.bool (strEq p1.1.1 (ByteArray.mk #[108, 101, 97, 115, 116]))) rfl (f_nil ?_))))
          refine f_if (fun h11 => ?_) (fun h11 => ?_)
          ·exact bT 50 h11 rfl (f_region (a_ (.str (ByteArray.mk #[100])) rfl (a_ (.fn 107 [] []) rfl (f_nil (f_inBlock (f_keep [1, 6, 9, 10] (s62_j0 happ a1 p1.1.1 (ByteArray.mk #[100]) (.fn 107 [] []) p1.2)))))))
          ·exact bF 50 h11 rfl (q_ (a_ (.str (ByteArray.mk #[])) rfl (a_ (.int .i64 3) rfl (f_nil (f_ret (.tmp rfl (.tmp rfl (.nil))) rfl)))))

/- 14 (*congou/chest.Chest).Ask -/
theorem ok14 : FnOk prog 14 := ⟨⟨f14, func14, by kernel_rfl, rfl⟩⟩
theorem sim14 {app : App} (happ : AppSim prog app) {a0b : Nat} {a0o : Nat} {a1 : ByteArray} {H : Hp} {p : (ByteArray × Int) × Hp} (h : r14 app a0b a0o a1 H = some p) : CallSim prog 14 [.ptr a0b a0o, .str a1] H (.tup [.str p.1.1, .int .i64 p.1.2]) p.2 := by
 refine callSim (fn := f14) (ret := ret14) func14 rfl Tryz.ntmps14 rfl ?_ h
 unfold r14
 refine q_ (a_ (.str (ByteArray.mk #[])) rfl (a_ (.int .i64 0) rfl (f_nil (f_seq (q_ (m_ (.ptr a0b a0o) rfl (o_bind fun p1 hp1 => p_ rfl (s_callF rfl ok60 (sim60 hp1)) (f_nil ?_))))))))
 refine f_if (fun h2 => ?_) (fun h2 => ?_)
 ·exact bT 7 h2 rfl (q_ (a_ (.str (ByteArray.mk #[])) rfl (a_ (.int .i64 1) rfl (f_nil (f_ret (.tmp rfl (.tmp rfl (.nil))) rfl)))))
 ·refine bF 7 h2 rfl (f_skip (q_ (m_ (.ptr a0b a0o) rfl (o_bind fun p3 hp3 => p_ rfl (s_callF rfl ok61 (sim61 hp3)) (m_ (.str a1) rfl (o_bind fun p4 hp4 => p_ rfl (s_callF rfl ok62 (sim62 happ hp4)) (p_ rfl (s_extract (r := .str p4.1.1) rfl rfl) (p_ rfl (s_extract (r := .int .i64 p4.1.2) rfl rfl) (a_ (.str p4.1.1) rfl (a_ (.int .i64 p4.1.2) rfl (f_nil ?_)))))))))))
  exact f_ret (.tmp rfl (.tmp rfl (.nil))) rfl

/- 180 internal/stringslite.HasPrefix -/
theorem ok180 : FnOk prog 180 := ⟨⟨f180, func180, by kernel_rfl, rfl⟩⟩
theorem sim180 {a0 : ByteArray} {a1 : ByteArray} {H : Hp} {p : Bool × Hp} (h : r180 a0 a1 H = some p) : CallSim prog 180 [.str a0, .str a1] H (.bool p.1) p.2 := by
 refine callSim (fn := f180) (ret := ret180) func180 rfl Tryz.ntmps180 rfl ?_ h
 unfold r180
 refine q_ (a_ (.bool false) rfl (n_ (m_ (.str a0) rfl (p_ rfl (s_lenStr rfl underlying9 rfl) (m_ (.str a1) rfl (p_ rfl (s_lenStr rfl underlying9 rfl) (p_ rfl (s_geq rfl rfl) (m_ (.bool (decide ((a1.size : Int) ≤ (a0.size : Int)))) rfl ?_))))))))
 refine o_if (fun h1 => ?_) (fun h1 => ?_)
 ·exact o_know 10 rfl (dec_true h1) (m_ (.str a0) rfl (m_ (.str a1) rfl (p_ rfl (s_lenStr rfl underlying9 rfl) (o_ck fun g2 => p_ rfl (s_sliceStr underlying9 rfl rfl rfl g2) (m_ (.str a1) rfl (p_ rfl (s_eqStr rfl rfl) (p_ rfl (s_pickT (v := .bool (strEq (a0.extract (0 : Int).toNat ((a1.size : Int) : Int).toNat) a1)) rfl rfl) (a_ (.bool (strEq (a0.extract (0 : Int).toNat ((a1.size : Int) : Int).toNat) a1)) rfl (f_nil (f_ret (.tmp rfl (.nil)) rfl))))))))))
 ·exact o_know 10 rfl (dec_false h1) (no_ rfl (no_ rfl (no_ rfl (no_ rfl (no_ rfl (no_ rfl (p_ rfl (s_pickF (v := .bool false) rfl rfl) (a_ (.bool false) rfl (f_nil (f_ret (.tmp rfl (.nil)) rfl))))))))))

/- 128 internal/stringslite.TrimPrefix -/
theorem ok128 : FnOk prog 128 := ⟨⟨f128, func128, by kernel_rfl, rfl⟩⟩
theorem sim128 {a0 : ByteArray} {a1 : ByteArray} {H : Hp} {p : ByteArray × Hp} (h : r128 a0 a1 H = some p) : CallSim prog 128 [.str a0, .str a1] H (.str p.1) p.2 := by
 refine callSim (fn := f128) (ret := ret128) func128 rfl Tryz.ntmps128 rfl ?_ h
 unfold r128
 refine q_ (a_ (.str (ByteArray.mk #[])) rfl (f_nil (f_seq (q_ (m_ (.str a0) rfl (m_ (.str a1) rfl (o_bind fun p1 hp1 => p_ rfl (s_callF rfl ok180 (sim180 hp1)) (f_nil ?_))))))))
 refine f_if (fun h2 => ?_) (fun h2 => ?_)
 ·exact bT 7 h2 rfl (q_ (m_ (.str a0) rfl (m_ (.str a1) rfl (p_ rfl (s_lenStr rfl underlying9 rfl) (o_ck fun g3 => p_ rfl (s_sliceStr underlying9 rfl rfl rfl g3) (a_ (.str (a0.extract ((a1.size : Int) : Int).toNat ((a0.size : Int) : Int).toNat)) rfl (f_nil (f_ret (.tmp rfl (.nil)) rfl))))))))
 ·exact bF 7 h2 rfl (f_skip (q_ (m_ (.str a0) rfl (a_ (.str a0) rfl (f_nil (f_ret (.tmp rfl (.nil)) rfl))))))

/- 77 strings.TrimPrefix -/
theorem ok77 : FnOk prog 77 := ⟨⟨f77, func77, by kernel_rfl, rfl⟩⟩
theorem sim77 {a0 : ByteArray} {a1 : ByteArray} {H : Hp} {p : ByteArray × Hp} (h : r77 a0 a1 H = some p) : CallSim prog 77 [.str a0, .str a1] H (.str p.1) p.2 := by
 refine callSim (fn := f77) (ret := ret77) func77 rfl Tryz.ntmps77 rfl ?_ h
 unfold r77
 exact q_ (a_ (.str (ByteArray.mk #[])) rfl (n_ (m_ (.str a0) rfl (m_ (.str a1) rfl (o_bind fun p1 hp1 => p_ rfl (s_callF rfl ok128 (sim128 hp1)) (a_ (.str p1.1) rfl (f_nil (f_ret (.tmp rfl (.nil)) rfl))))))))

/- 32 congou/congoulaw10.gap -/
theorem ok32 : FnOk prog 32 := ⟨⟨f32, func32, by kernel_rfl, rfl⟩⟩
theorem sim32 {app : App} (happ : AppSim prog app) {a0b : Nat} {a0o : Nat} {H : Hp} {p : (Int × Bool) × Hp} (h : r32 app a0b a0o H = some p) : CallSim prog 32 [.ptr a0b a0o] H (.tup [.int .i64 p.1.1, .bool p.1.2]) p.2 := by
 refine callSim (fn := f32) (ret := ret32) func32 rfl Tryz.ntmps32 rfl ?_ h
 unfold r32
 refine q_ (a_ (.int .i64 0) rfl (a_ (.bool false) rfl (n_ (m_ (.ptr a0b a0o) rfl (o_bind fun p1 hp1 => p_ rfl (s_callF rfl ok14 (sim14 happ hp1)) (m_ (.tup [.str p1.1.1, .int .i64 p1.1.2]) rfl (p_ rfl (s_extract (r := .str p1.1.1) rfl rfl) (p_ rfl (s_extract (r := .int .i64 p1.1.2) rfl rfl) (a_ (.str p1.1.1) rfl (a_ (.int .i64 p1.1.2) rfl (f_nil ?_)))))))))))
 refine q_ (m_ (.str p1.1.1) rfl (o_bind fun p2 hp2 => p_ rfl (s_callF rfl ok77 (sim77 hp2)) (o_bind fun p3 hp3 => o_bind fun x4 hx4 => o_ck fun g5 => o_bind fun x6 hx6 => o_bind fun x7 hx7 => o_bind fun x8 hx8 => p_ rfl (s_callA happ rfl hp3) (o_know 16 rfl (tupOf2 hx4 g5 (gete hx6 (asI_eq hx7)) (gete hx8 (rfl))) (m_ (.tup [.int .i64 x7, x8]) rfl (p_ rfl (s_extract (r := .int .i64 x7) rfl rfl) (p_ rfl (s_extract (r := x8) rfl rfl) ?_)))))))
 refine a_ (.int .i64 x7) rfl (a_ x8 rfl (n_ (m_ (.int .i64 x7) rfl (m_ (.int .i64 p1.1.2) rfl (p_ rfl (s_eql rfl rfl) (m_ (.bool (decide (p1.1.2 = 0))) rfl ?_))))))
 refine o_if (fun h9 => ?_) (fun h9 => ?_)
 ·refine o_know 22 rfl (dec_true h9) (m_ x8 rfl (o_bind fun x10 hx10 => p_ rfl (s_eqIfN underlying98 rfl rfl trivial hx10) (p_ rfl (s_pickT (v := .bool (!x10)) rfl rfl) (m_ (.bool (!x10)) rfl ?_))))
  refine o_if (fun h11 => ?_) (fun h11 => ?_)
  ·exact o_know 26 rfl (bool_notT h11) (no_ rfl (no_ rfl (p_ rfl (s_pickF (v := .bool false) rfl rfl) (a_ (.int .i64 x7) rfl (a_ (.bool false) rfl (f_nil (f_ret (.tmp rfl (.tmp rfl (.nil))) rfl)))))))
  ·exact o_know 26 rfl (bool_notF h11) (m_ (.int .i64 x7) rfl (p_ rfl (s_geq rfl rfl) (p_ rfl (s_pickT (v := .bool (decide (0 ≤ x7))) rfl rfl) (a_ (.int .i64 x7) rfl (a_ (.bool (decide (0 ≤ x7))) rfl (f_nil (f_ret (.tmp rfl (.tmp rfl (.nil))) rfl)))))))
 ·exact o_know 22 rfl (dec_false h9) (no_ rfl (no_ rfl (p_ rfl (s_pickF (v := .bool false) rfl rfl) (m_ (.bool false) rfl (no_ rfl (no_ rfl (p_ rfl (s_pickF (v := .bool false) rfl rfl) (a_ (.int .i64 x7) rfl (a_ (.bool false) rfl (f_nil (f_ret (.tmp rfl (.tmp rfl (.nil))) rfl)))))))))))

/- 38 (*congou/chest.Chest).At -/
theorem ok38 : FnOk prog 38 := ⟨⟨f38, func38, by kernel_rfl, rfl⟩⟩
theorem sim38 {a0b : Nat} {a0o : Nat} {H : Hp} {p : Int × Hp} (h : r38 a0b a0o H = some p) : CallSim prog 38 [.ptr a0b a0o] H (.int .i64 p.1) p.2 := by
 refine callSim (fn := f38) (ret := ret38) func38 rfl Tryz.ntmps38 rfl ?_ h
 unfold r38
 refine q_ (a_ (.int .i64 0) rfl (f_nil (f_seq (q_ (m_ (.ptr a0b a0o) rfl (o_bind fun p1 hp1 => p_ rfl (s_callF rfl ok60 (sim60 hp1)) (f_nil ?_)))))))
 refine f_if (fun h2 => ?_) (fun h2 => ?_)
 ·exact bT 4 h2 rfl (q_ (a_ (.int .i64 0) rfl (f_nil (f_ret (.tmp rfl (.nil)) rfl))))
 ·exact bF 4 h2 rfl (f_skip (q_ (m_ (.ptr a0b a0o) rfl (p_ rfl (s_nilCheck rfl) (p_ rfl (s_fieldAddr underlying118 rfl ty3 rfl) (o_bind fun x3 hx3 => p_ rfl (s_load underlying3 rfl rfl (ldI_eq hx3)) (a_ (.int .i64 x3) rfl (f_nil (f_ret (.tmp rfl (.nil)) rfl)))))))))

/- 34 congou/congoulaw10.awake -/
theorem ok34 : FnOk prog 34 := ⟨⟨f34, func34, by kernel_rfl, rfl⟩⟩
theorem sim34 {app : App} (happ : AppSim prog app) {H : Hp} {p : Bool × Hp} (h : r34 app H = some p) : CallSim prog 34 [] H (.bool p.1) p.2 := by
 refine callSim (fn := f34) (ret := ret34) func34 rfl Tryz.ntmps34 rfl ?_ h
 unfold r34
 refine q_ (a_ (.bool false) rfl (n_ (o_bind fun p1 hp1 => p_ rfl (s_callF rfl ok47 (sim47 hp1)) (a_ (.ptr p1.1.1 p1.1.2) rfl (n_ (m_ (.ptr p1.1.1 p1.1.2) rfl (o_bind fun p2 hp2 => p_ rfl (s_callF rfl ok20 (sim20 happ hp2)) (m_ (.tup [.str p2.1.1, .int .i64 p2.1.2]) rfl ?_))))))))
 refine p_ rfl (s_extract (r := .str p2.1.1) rfl rfl) (p_ rfl (s_extract (r := .int .i64 p2.1.2) rfl rfl) (a_ (.str p2.1.1) rfl (a_ (.int .i64 p2.1.2) rfl (n_ (m_ (.ptr p1.1.1 p1.1.2) rfl (o_bind fun p3 hp3 => p_ rfl (s_callF rfl ok14 (sim14 happ hp3)) (m_ (.tup [.str p3.1.1, .int .i64 p3.1.2]) rfl (p_ rfl (s_extract (r := .str p3.1.1) rfl rfl) (p_ rfl (s_extract (r := .int .i64 p3.1.2) rfl rfl) (a_ (.str p3.1.1) rfl (a_ (.int .i64 p3.1.2) rfl (f_nil ?_))))))))))))
 refine q_ (m_ (.int .i64 p2.1.2) rfl (p_ rfl (s_eql rfl rfl) (m_ (.bool (decide (p2.1.2 = 0))) rfl ?_)))
 refine o_if (fun h4 => ?_) (fun h4 => ?_)
 ·refine o_know 19 rfl (dec_true h4) (m_ (.int .i64 p3.1.2) rfl (p_ rfl (s_eql rfl rfl) (p_ rfl (s_pickT (v := .bool (decide (p3.1.2 = 0))) rfl rfl) (m_ (.bool (decide (p3.1.2 = 0))) rfl ?_))))
  refine o_if (fun h5 => ?_) (fun h5 => ?_)
  ·refine o_know 23 rfl (dec_true h5) (m_ (.str p2.1.1) rfl (p_ rfl (s_eqStr rfl rfl) (p_ rfl (s_pickT (v := .bool (strEq p2.1.1 (ByteArray.mk #[108, 101, 97, 102]))) rfl rfl) (m_ (.bool (strEq p2.1.1 (ByteArray.mk #[108, 101, 97, 102]))) rfl ?_))))
   refine o_if (fun h6 => ?_) (fun h6 => ?_)
   ·refine o_know 27 rfl (bool_T h6) (m_ (.str p3.1.1) rfl (p_ rfl (s_eqStr rfl rfl) (p_ rfl (s_pickT (v := .bool (strEq p3.1.1 (ByteArray.mk #[103, 97, 112, 32, 48]))) rfl rfl) (m_ (.bool (strEq p3.1.1 (ByteArray.mk #[103, 97, 112, 32, 48]))) rfl ?_))))
    refine o_if (fun h7 => ?_) (fun h7 => ?_)
    ·exact o_know 31 rfl (bool_T h7) (m_ (.ptr p1.1.1 p1.1.2) rfl (o_bind fun p8 hp8 => p_ rfl (s_callF rfl ok38 (sim38 hp8)) (p_ rfl (s_eql rfl rfl) (p_ rfl (s_pickT (v := .bool (decide (p8.1 = 1))) rfl rfl) (a_ (.bool (decide (p8.1 = 1))) rfl (f_nil (f_ret (.tmp rfl (.nil)) rfl)))))))
    ·exact o_know 31 rfl (bool_F h7) (no_ rfl (no_ rfl (no_ rfl (p_ rfl (s_pickF (v := .bool false) rfl rfl) (a_ (.bool false) rfl (f_nil (f_ret (.tmp rfl (.nil)) rfl)))))))
   ·exact o_know 27 rfl (bool_F h6) (no_ rfl (no_ rfl (p_ rfl (s_pickF (v := .bool false) rfl rfl) (m_ (.bool false) rfl (no_ rfl (no_ rfl (no_ rfl (p_ rfl (s_pickF (v := .bool false) rfl rfl) (a_ (.bool false) rfl (f_nil (f_ret (.tmp rfl (.nil)) rfl)))))))))))
  ·exact o_know 23 rfl (dec_false h5) (no_ rfl (no_ rfl (p_ rfl (s_pickF (v := .bool false) rfl rfl) (m_ (.bool false) rfl (no_ rfl (no_ rfl (p_ rfl (s_pickF (v := .bool false) rfl rfl) (m_ (.bool false) rfl (no_ rfl (no_ rfl (no_ rfl (p_ rfl (s_pickF (v := .bool false) rfl rfl) (a_ (.bool false) rfl (f_nil (f_ret (.tmp rfl (.nil)) rfl)))))))))))))))
 ·refine o_know 19 rfl (dec_false h4) (no_ rfl (no_ rfl (p_ rfl (s_pickF (v := .bool false) rfl rfl) (m_ (.bool false) rfl (no_ rfl (no_ rfl (p_ rfl (s_pickF (v := .bool false) rfl rfl) (m_ (.bool false) rfl (no_ rfl (no_ rfl (p_ rfl (s_pickF (v := .bool false) rfl rfl) (m_ (.bool false) rfl (no_ rfl (no_ rfl (no_ rfl ?_)))))))))))))))
  exact p_ rfl (s_pickF (v := .bool false) rfl rfl) (a_ (.bool false) rfl (f_nil (f_ret (.tmp rfl (.nil)) rfl)))

end Go.Lt.P10
