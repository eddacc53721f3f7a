/- PRINTED BY A PROGRAM OF OURS: what each function that 'ChestReads' reaches computes on the abstract heap, and that the translated code does just that. Nothing is asked of the input. -/
import Derived.Test.YtopildlfbhfghaaGreatDoorG8P1
set_option linter.unusedVariables false
set_option linter.unusedSimpArgs false
set_option maxRecDepth 100000
set_option maxHeartbeats 4000000
namespace Go.Lt.P10
open Go Go.Lt Go.Proofs Go.Proofs.Tryz
/- 20 (*congou/chest.Chest).Do -/
theorem ok20 : FnOk prog 20 := ⟨⟨f20, func20, by kernel_rfl, rfl⟩⟩
theorem s20_j0 {app : App} (happ : AppSim prog app) (v1 v2 : Nat) (v3 : ByteArray) (v4 : Int) (H : Hp) : Fin prog f20 ret20 66 (todoAt (bodyOf f20) [1, 1, 1, 1, 1, 1] []) [(0, .ptr v1 v2), (7, .str v3), (9, .int .i64 v4)] H (r20_j0 app v1 v2 v3 v4 H) := by
  unfold r20_j0
  exact q_ (m_ (.ptr v1 v2) rfl (m_ (.int .i64 v4) rfl (p_ rfl (s_nilCheck rfl) (p_ rfl (s_fieldAddr underlying118 rfl ty3 rfl) (o_bind fun H1 hH1 => p_ rfl (s_store (s := 1) ty3 rfl rfl rfl hH1) (n_ (m_ (.str v3) rfl (a_ (.str v3) rfl (a_ (.int .i64 0) rfl (f_nil (f_ret (.tmp rfl (.tmp rfl (.nil))) rfl)))))))))))

theorem sim20 {app : App} (happ : AppSim prog app) {a0b : Nat} {a0o : Nat} {a1 : ByteArray} {H : Hp} {p : (ByteArray × Int) × Hp} (h : r20 app a0b a0o a1 H = some p) : CallSim prog 20 [.ptr a0b a0o, .str a1] H (.tup [.str p.1.1, .int .i64 p.1.2]) p.2 := by
  refine callSim (fn := f20) (ret := ret20) func20 rfl Tryz.ntmps20 rfl ?_ h
  unfold r20
  refine q_ (a_ (.str (ByteArray.mk #[])) rfl (a_ (.int .i64 0) rfl (f_nil (f_seq (q_ (m_ (.ptr a0b a0o) rfl (o_bind fun p1 hp1 => p_ rfl (s_callF rfl ok60 (sim60 hp1)) (f_nil ?_))))))))
  refine f_if (fun h2 => ?_) (fun h2 => ?_)
  · exact bT 11 h2 rfl (q_ (a_ (.str (ByteArray.mk #[])) rfl (a_ (.int .i64 1) rfl (f_nil (f_ret (.tmp rfl (.tmp rfl (.nil))) rfl)))))
  · refine bF 11 h2 rfl (f_skip (q_ (m_ (.ptr a0b a0o) rfl (o_bind fun p3 hp3 => p_ rfl (s_callF rfl ok61 (sim61 hp3)) (m_ (.str a1) rfl (o_bind fun p4 hp4 => p_ rfl (s_callF rfl ok64 (sim64 happ hp4)) (m_ (.tup [.ptr p4.1.1 p4.1.2.1, .str p4.1.2.2.1, .int .i64 p4.1.2.2.2]) rfl (p_ rfl (s_extract (r := .ptr p4.1.1 p4.1.2.1) rfl rfl) (p_ rfl (s_extract (r := .str p4.1.2.2.1) rfl rfl) (p_ rfl (s_extract (r := .int .i64 p4.1.2.2.2) rfl rfl) (a_ (.ptr p4.1.1 p4.1.2.1) rfl ?_)))))))))))
    refine a_ (.str p4.1.2.2.1) rfl (a_ (.int .i64 p4.1.2.2.2) rfl (f_nil (f_seq (q_ (m_ (.int .i64 p4.1.2.2.2) rfl (p_ rfl (s_neq rfl rfl) (f_nil ?_)))))))
    refine f_if (fun h5 => ?_) (fun h5 => ?_)
    · exact kT 21 h5 rfl (q_ (m_ (.int .i64 p4.1.2.2.2) rfl (a_ (.str (ByteArray.mk #[])) rfl (a_ (.int .i64 p4.1.2.2.2) rfl (f_nil (f_ret (.tmp rfl (.tmp rfl (.nil))) rfl))))))
    · refine kF 21 h5 rfl (f_skip (q_ (m_ (.ptr a0b a0o) rfl (m_ (.ptr a0b a0o) rfl (p_ rfl (s_nilCheck rfl) (p_ rfl (s_fieldAddr underlying118 rfl ty3 rfl) (o_bind fun x6 hx6 => p_ rfl (s_load underlying3 rfl rfl (ldI_eq hx6)) (m_ (.str a1) rfl (o_bind fun p7 hp7 => p_ rfl (s_callF rfl ok65 (sim65 happ hp7)) (a_ (.int .i64 p7.1) rfl (f_nil ?_)))))))))))
      refine f_seq (f_block (q_ (m_ (.int .i64 p7.1) rfl (p_ rfl (s_geq rfl rfl) (a_ (.bool (decide (0 ≤ p7.1))) rfl (f_nil ?_))))))
      refine f_if (fun h8 => ?_) (fun h8 => ?_)
      · exact kT 51 h8 rfl (f_skip (f_inBlock (f_keep [0, 7, 9] (s20_j0 happ a0b a0o p4.1.2.2.1 p7.1 p7.2))))
      · refine kF 51 h8 rfl (q_ (m_ (.ptr a0b a0o) rfl (p_ rfl (s_nilCheck rfl) (p_ rfl (s_fieldAddr underlying118 rfl ty116 rfl) (o_bind fun x9 hx9 => p_ rfl (s_load underlying116 rfl rfl (ldSl_eq hx9)) (p_ rfl (s_lenS rfl underlying116 rfl) (p_ rfl (s_eql rfl rfl) (a_ (.bool (decide ((x9.len : Int) = 200))) rfl (f_nil ?_)))))))))
        refine f_if (fun h10 => ?_) (fun h10 => ?_)
        · exact kT 54 h10 rfl (q_ (a_ (.str (ByteArray.mk #[])) rfl (a_ (.int .i64 7) rfl (f_nil (f_ret (.tmp rfl (.tmp rfl (.nil))) rfl)))))
        · refine kF 54 h10 rfl (q_ (m_ (.ptr a0b a0o) rfl (p_ rfl (s_nilCheck rfl) (p_ rfl (s_fieldAddr underlying118 rfl ty116 rfl) (o_bind fun x11 hx11 => p_ rfl (s_load underlying116 rfl rfl (ldSl_eq hx11)) (p_ rfl (s_lenS rfl underlying116 rfl) (a_ (.int .i64 (x11.len : Int)) rfl (f_nil (f_bind fun x12 hx12 => f_bind fun x13 hx13 => f_bind fun x14 hx14 => f_bind fun H15 hH15 => ?_)))))))))
          exact f_ck fun g16 => f_draw (Φ := fun H_ => H_.ld a0b (a0o + 0) = some (.sl x12)) (lim := 13) [0, 0, 0, 0, 0, 0, 0, 0, 0, 1, 0, 0, 2, 2, 0, 0, 2] (tm (.ptr a0b a0o) rfl (tm (.ptr a0b a0o) rfl (t_ rfl (fun _ => s_nilCheck rfl) (t_ rfl (fun _ => s_fieldAddr underlying118 rfl ty116 rfl) (Trc.pure rfl rfl rfl (.inr ⟨by decide +kernel, fun _ hp_ => s_load underlying116 rfl rfl hp_⟩) (tm (.str a1) rfl (tm (.ptr a0b a0o) rfl (t_ rfl (fun _ => s_nilCheck rfl) (t_ rfl (fun _ => s_fieldAddr underlying118 rfl ty3 rfl) (tr rfl (s_load underlying3 rfl rfl (ldI_eq hx13)) (tm (.ptr p4.1.1 p4.1.2.1) rfl (t_ rfl (fun _ => s_build (cs := [.str a1, .int .i64 x13, .ptr p4.1.1 p4.1.2.1]) underlying120 ty120 rfl pl120 rfl) (Trc.eff rfl rfl rfl (fun _ => ldSl_eq hx12) (s_buildSlice (cs := [.str a1, .int .i64 x13, .ptr p4.1.1 p4.1.2.1]) underlying116 ty120 (by decide) (by decide) rfl (by decide) rfl) (Trc.eff rfl rfl rfl (fun _ => ldSl_eq g16) (s_ap rfl rfl underlying116 underlying116 ty120 rfl rfl rfl rfl rfl rfl rfl hx14) (t_ rfl (fun _ => s_nilCheck rfl) (t_ rfl (fun _ => s_fieldAddr underlying118 rfl ty116 rfl) (Trc.eff rfl rfl rfl (fun h_ => absurd h_ (by decide +kernel)) (s_store (s := 1) ty116 rfl rfl rfl hH15) (Trc.nil (fun h_ => absurd h_ (by decide +kernel)))))))))))))))))))) rfl (by decide +kernel) mixed (f_inBlock (f_keep [0, 7, 9] (s20_j0 happ a0b a0o p4.1.2.2.1 (x11.len : Int) H15)))

/- 38 (*congou/chest.Chest).At -/
theorem ok38 : FnOk prog 38 := ⟨⟨f38, func38, by kernel_rfl, rfl⟩⟩
theorem sim38 {a0b : Nat} {a0o : Nat} {H : Hp} {p : Int × Hp} (h : r38 a0b a0o H = some p) : CallSim prog 38 [.ptr a0b a0o] H (.int .i64 p.1) p.2 := by
  refine callSim (fn := f38) (ret := ret38) func38 rfl Tryz.ntmps38 rfl ?_ h
  unfold r38
  refine q_ (a_ (.int .i64 0) rfl (f_nil (f_seq (q_ (m_ (.ptr a0b a0o) rfl (o_bind fun p1 hp1 => p_ rfl (s_callF rfl ok60 (sim60 hp1)) (f_nil ?_)))))))
  refine f_if (fun h2 => ?_) (fun h2 => ?_)
  · exact bT 4 h2 rfl (q_ (a_ (.int .i64 0) rfl (f_nil (f_ret (.tmp rfl (.nil)) rfl))))
  · exact bF 4 h2 rfl (f_skip (q_ (m_ (.ptr a0b a0o) rfl (p_ rfl (s_nilCheck rfl) (p_ rfl (s_fieldAddr underlying118 rfl ty3 rfl) (o_bind fun x3 hx3 => p_ rfl (s_load underlying3 rfl rfl (ldI_eq hx3)) (a_ (.int .i64 x3) rfl (f_nil (f_ret (.tmp rfl (.nil)) rfl)))))))))

/- 47 congou/chest.New -/
theorem ok47 : FnOk prog 47 := ⟨⟨f47, func47, by kernel_rfl, rfl⟩⟩
theorem sim47 {H : Hp} {p : (Nat × Nat) × Hp} (h : r47 H = some p) : CallSim prog 47 [] H (.ptr p.1.1 p.1.2) p.2 := by
  refine callSim (fn := f47) (ret := ret47) func47 rfl Tryz.ntmps47 rfl ?_ h
  unfold r47
  exact q_ (a_ (.nilptr) rfl (n_ (p_ rfl (s_build (cs := [.sl ⟨true, 0, 0, 0, 0, 0⟩, .sl ⟨true, 0, 0, 0, 0, 0⟩, .int .i64 0, .int .i64 0, .int .i64 0, .int .i64 0, .sl ⟨true, 0, 0, 0, 0, 0⟩]) underlying150 ty150 rfl pl150 rfl) (p_ rfl (s_box (v := .agg [.sl ⟨true, 0, 0, 0, 0, 0⟩, .sl ⟨true, 0, 0, 0, 0, 0⟩, .int .i64 0, .int .i64 0, .int .i64 0, .int .i64 0, .sl ⟨true, 0, 0, 0, 0, 0⟩]) rfl rfl) (p_ rfl (s_build (cs := [.str (ByteArray.mk #[]), .int .i64 0, .ptr H.n 0]) underlying120 ty120 rfl pl120 rfl) (p_ rfl (s_buildSlice (cs := [.str (ByteArray.mk #[]), .int .i64 0, .ptr H.n 0]) underlying116 ty120 (by decide) (by decide) rfl (by decide) rfl) (p_ rfl (s_build (cs := [.sl ⟨false, (H.push (.cells [.sl ⟨true, 0, 0, 0, 0, 0⟩, .sl ⟨true, 0, 0, 0, 0, 0⟩, .int .i64 0, .int .i64 0, .int .i64 0, .int .i64 0, .sl ⟨true, 0, 0, 0, 0, 0⟩] false)).n, 0, 1, 1, 0⟩, .int .i64 0]) underlying118 ty118 rfl pl118 rfl) (p_ rfl (s_box (v := .agg [.sl ⟨false, (H.push (.cells [.sl ⟨true, 0, 0, 0, 0, 0⟩, .sl ⟨true, 0, 0, 0, 0, 0⟩, .int .i64 0, .int .i64 0, .int .i64 0, .int .i64 0, .sl ⟨true, 0, 0, 0, 0, 0⟩] false)).n, 0, 1, 1, 0⟩, .int .i64 0]) rfl rfl) (a_ (.ptr (((H.push (.cells [.sl ⟨true, 0, 0, 0, 0, 0⟩, .sl ⟨true, 0, 0, 0, 0, 0⟩, .int .i64 0, .int .i64 0, .int .i64 0, .int .i64 0, .sl ⟨true, 0, 0, 0, 0, 0⟩] false)).push (.cells [.str (ByteArray.mk #[]), .int .i64 0, .ptr H.n 0] false)).n) 0) rfl (o_hp fun H1 hH1 => f_nil (f_ret (.tmp rfl (.nil)) rfl)))))))))))

/- 34 congou/congoulaw10.awake -/
theorem ok34 : FnOk prog 34 := ⟨⟨f34, func34, by kernel_rfl, rfl⟩⟩
theorem sim34 {app : App} (happ : AppSim prog app) {H : Hp} {p : Bool × Hp} (h : r34 app H = some p) : CallSim prog 34 [] H (.bool p.1) p.2 := by
  refine callSim (fn := f34) (ret := ret34) func34 rfl Tryz.ntmps34 rfl ?_ h
  unfold r34
  refine q_ (a_ (.bool false) rfl (n_ (o_bind fun p1 hp1 => p_ rfl (s_callF rfl ok47 (sim47 hp1)) (a_ (.ptr p1.1.1 p1.1.2) rfl (n_ (m_ (.ptr p1.1.1 p1.1.2) rfl (o_bind fun p2 hp2 => p_ rfl (s_callF rfl ok20 (sim20 happ hp2)) (m_ (.tup [.str p2.1.1, .int .i64 p2.1.2]) rfl ?_))))))))
  refine p_ rfl (s_extract (r := .str p2.1.1) rfl rfl) (p_ rfl (s_extract (r := .int .i64 p2.1.2) rfl rfl) (a_ (.str p2.1.1) rfl (a_ (.int .i64 p2.1.2) rfl (n_ (m_ (.ptr p1.1.1 p1.1.2) rfl (o_bind fun p3 hp3 => p_ rfl (s_callF rfl ok14 (sim14 happ hp3)) (m_ (.tup [.str p3.1.1, .int .i64 p3.1.2]) rfl (p_ rfl (s_extract (r := .str p3.1.1) rfl rfl) (p_ rfl (s_extract (r := .int .i64 p3.1.2) rfl rfl) (a_ (.str p3.1.1) rfl (a_ (.int .i64 p3.1.2) rfl (f_nil ?_))))))))))))
  refine q_ (m_ (.int .i64 p2.1.2) rfl (p_ rfl (s_eql rfl rfl) (m_ (.bool (decide (p2.1.2 = 0))) rfl ?_)))
  refine o_if (fun h4 => ?_) (fun h4 => ?_)
  · refine o_know 19 rfl (dec_true h4) (m_ (.int .i64 p3.1.2) rfl (p_ rfl (s_eql rfl rfl) (p_ rfl (s_pickT (v := .bool (decide (p3.1.2 = 0))) rfl rfl) (m_ (.bool (decide (p3.1.2 = 0))) rfl ?_))))
    refine o_if (fun h5 => ?_) (fun h5 => ?_)
    · refine o_know 23 rfl (dec_true h5) (m_ (.str p2.1.1) rfl (p_ rfl (s_eqStr rfl rfl) (p_ rfl (s_pickT (v := .bool (strEq p2.1.1 (ByteArray.mk #[108, 101, 97, 102]))) rfl rfl) (m_ (.bool (strEq p2.1.1 (ByteArray.mk #[108, 101, 97, 102]))) rfl ?_))))
      refine o_if (fun h6 => ?_) (fun h6 => ?_)
      · refine o_know 27 rfl (bool_T h6) (m_ (.str p3.1.1) rfl (p_ rfl (s_eqStr rfl rfl) (p_ rfl (s_pickT (v := .bool (strEq p3.1.1 (ByteArray.mk #[103, 97, 112, 32, 48]))) rfl rfl) (m_ (.bool (strEq p3.1.1 (ByteArray.mk #[103, 97, 112, 32, 48]))) rfl ?_))))
        refine o_if (fun h7 => ?_) (fun h7 => ?_)
        · exact o_know 31 rfl (bool_T h7) (m_ (.ptr p1.1.1 p1.1.2) rfl (o_bind fun p8 hp8 => p_ rfl (s_callF rfl ok38 (sim38 hp8)) (p_ rfl (s_eql rfl rfl) (p_ rfl (s_pickT (v := .bool (decide (p8.1 = 1))) rfl rfl) (a_ (.bool (decide (p8.1 = 1))) rfl (f_nil (f_ret (.tmp rfl (.nil)) rfl)))))))
        · exact o_know 31 rfl (bool_F h7) (no_ rfl (no_ rfl (no_ rfl (p_ rfl (s_pickF (v := .bool false) rfl rfl) (a_ (.bool false) rfl (f_nil (f_ret (.tmp rfl (.nil)) rfl)))))))
      · exact o_know 27 rfl (bool_F h6) (no_ rfl (no_ rfl (p_ rfl (s_pickF (v := .bool false) rfl rfl) (m_ (.bool false) rfl (no_ rfl (no_ rfl (no_ rfl (p_ rfl (s_pickF (v := .bool false) rfl rfl) (a_ (.bool false) rfl (f_nil (f_ret (.tmp rfl (.nil)) rfl)))))))))))
    · exact o_know 23 rfl (dec_false h5) (no_ rfl (no_ rfl (p_ rfl (s_pickF (v := .bool false) rfl rfl) (m_ (.bool false) rfl (no_ rfl (no_ rfl (p_ rfl (s_pickF (v := .bool false) rfl rfl) (m_ (.bool false) rfl (no_ rfl (no_ rfl (no_ rfl (p_ rfl (s_pickF (v := .bool false) rfl rfl) (a_ (.bool false) rfl (f_nil (f_ret (.tmp rfl (.nil)) rfl)))))))))))))))
  · refine o_know 19 rfl (dec_false h4) (no_ rfl (no_ rfl (p_ rfl (s_pickF (v := .bool false) rfl rfl) (m_ (.bool false) rfl (no_ rfl (no_ rfl (p_ rfl (s_pickF (v := .bool false) rfl rfl) (m_ (.bool false) rfl (no_ rfl (no_ rfl (p_ rfl (s_pickF (v := .bool false) rfl rfl) (m_ (.bool false) rfl (no_ rfl (no_ rfl (no_ rfl ?_)))))))))))))))
    exact p_ rfl (s_pickF (v := .bool false) rfl rfl) (a_ (.bool false) rfl (f_nil (f_ret (.tmp rfl (.nil)) rfl)))

/- 35 (*congou/chest.Chest).Bytes -/
theorem ok35 : FnOk prog 35 := ⟨⟨f35, func35, by kernel_rfl, rfl⟩⟩
theorem s35_l0 : ∀ (k_ : Nat) (v1 v2 : Sl) (v3 v4 : Int) (H : Hp), Fin prog f35 ret35 34 (todoAt (bodyOf f35) [1, 1, 1, 0, 1, 0, 0] []) [(3, .sl v1), (12, .sl v2), (13, .int .i64 v3), (14, .int .i64 v4)] H (r35_l0 k_ v1 v2 v3 v4 H) := by
  intro k_
  induction k_ with
  | zero => intro _ _ _ _ _; exact f_none
  | succ k_ ih =>
    intro v1 v2 v3 v4 H
    rw [r35_l0]
    refine q_ (p_ rfl (s_lss rfl rfl) (f_nil (f_seq ?_)))
    refine f_if (fun h1 => ?_) (fun h1 => ?_)
    · refine kT 15 h1 rfl (f_skip (f_seq (f_block (q_ (o_ck fun g2 => p_ rfl (s_idx underlying116 ty120 rfl rfl g2) (o_bind fun x3 hx3 => o_bind fun x4 hx4 => o_bind fun x5 hx5 => p_ rfl (s_loads underlying120 rfl ty120 rfl (lds_cons (ldStr_eq hx3) (lds_cons (ldI_eq hx4) (lds_cons (ldP_eq hx5) (lds_nil))))) (p_ rfl (s_alloc (zs := [.str (ByteArray.mk #[]), .int .i64 0, .nilptr]) ty120 rfl rfl) (o_bind fun H6 hH6 => p_ rfl (s_stores ty120 rfl rfl rfl rfl hH6 (Nat.le_of_eq (sts_mono hH6).symm)) ?_))))))))
      refine n_ (m_ (.sl v1) rfl (p_ rfl (s_fieldAddr underlying120 rfl ty3 rfl) (o_bind fun x7 hx7 => p_ rfl (s_load underlying3 rfl rfl (ldI_eq hx7)) (p_ rfl (s_convInt underlying3 underlying5 rfl) (p_ rfl (s_fieldAddr underlying120 rfl ty9 rfl) (o_bind fun x8 hx8 => p_ rfl (s_load underlying9 rfl rfl (ldStr_eq hx8)) (p_ rfl (s_lenStr rfl underlying9 rfl) (p_ rfl (s_convInt underlying3 underlying5 rfl) (p_ rfl (s_buildSlice (cs := [.int .u8 (IntKind.wrap .u8 (x7)), .int .u8 (IntKind.wrap .u8 ((x8.size : Int)))]) underlying75 ty5 (by decide) (by decide) rfl (by decide) rfl) (o_bind fun x9 hx9 => p_ rfl (s_ap rfl rfl underlying75 underlying75 ty5 rfl rfl rfl rfl rfl rfl rfl hx9) ?_))))))))))
      refine a_ (.sl x9.1) rfl (f_nil (f_region (m_ (.sl x9.1) rfl (p_ rfl (s_fieldAddr underlying120 rfl ty9 rfl) (o_bind fun x10 hx10 => p_ rfl (s_load underlying9 rfl rfl (ldStr_eq hx10)) (o_bind fun x11 hx11 => p_ rfl (s_appendStr rfl rfl underlying75 underlying9 ty5 rfl (by decide) rfl (by decide) rfl rfl hx11) (a_ (.sl x11.1) rfl (f_nil (f_inBlock (f_region (p_ rfl (s_add rfl rfl) (m_ (.int .i64 (w64 (v4 + 1))) rfl (f_nil ?_)))))))))))))
      exact f_inLoop (f_keep [3, 12, 13, 14] (ih x11.1 v2 v3 (w64 (v4 + 1)) x11.2))
    · exact kF 15 h1 rfl (f_exit rfl (q_ (m_ (.sl v1) rfl (a_ (.sl v1) rfl (f_nil (f_ret (.tmp rfl (.nil)) rfl))))))

theorem sim35 {a0b : Nat} {a0o : Nat} {H : Hp} {p : Sl × Hp} (h : r35 a0b a0o H = some p) : CallSim prog 35 [.ptr a0b a0o] H (.sl p.1) p.2 := by
  refine callSim (fn := f35) (ret := ret35) func35 rfl Tryz.ntmps35 rfl ?_ h
  unfold r35
  refine q_ (a_ (.sl ⟨true, 0, 0, 0, 0, 0⟩) rfl (f_nil (f_seq (q_ (m_ (.ptr a0b a0o) rfl (o_bind fun p1 hp1 => p_ rfl (s_callF rfl ok60 (sim60 hp1)) (f_nil ?_)))))))
  refine f_if (fun h2 => ?_) (fun h2 => ?_)
  · exact bT 7 h2 rfl (q_ (a_ (.sl ⟨true, 0, 0, 0, 0, 0⟩) rfl (f_nil (f_ret (.tmp rfl (.nil)) rfl))))
  · refine bF 7 h2 rfl (f_skip (q_ (a_ (.sl ⟨true, 0, 0, 0, 0, 0⟩) rfl (f_nil (f_seq (q_ (m_ (.ptr a0b a0o) rfl (p_ rfl (s_nilCheck rfl) (p_ rfl (s_fieldAddr underlying118 rfl ty116 rfl) (o_bind fun x3 hx3 => p_ rfl (s_load underlying116 rfl rfl (ldSl_eq hx3)) (o_ck fun g4 => ?_)))))))))))
    exact p_ rfl (s_slice underlying116 ty120 rfl rfl rfl g4.1 g4.2) (p_ rfl (s_lenS rfl underlying116 rfl) (m_ (.int .i64 0) rfl (f_nil (f_block (f_loop (f_keep [3, 12, 13, 14] (s35_l0 FUEL ⟨true, 0, 0, 0, 0, 0⟩ (x3.cut 3 (1 : Int).toNat ((x3.len : Int) : Int).toNat) ((x3.cut 3 (1 : Int).toNat ((x3.len : Int) : Int).toNat).len : Int) 0 p1.2)))))))

/- 174 slices.IndexFunc[[]int,int] -/
theorem ok174 : FnOk prog 174 := ⟨⟨f174, func174, by kernel_rfl, rfl⟩⟩
theorem s174_l0 {app : App} (happ : AppSim prog app) : ∀ (k_ : Nat) (v1 : Sl) (v2 : AV) (v3 v4 : Int) (H : Hp), Fin prog f174 ret174 19 (todoAt (bodyOf f174) [1, 0, 1, 0, 0] []) [(0, .sl v1), (1, v2), (7, .int .i64 v3), (8, .int .i64 v4)] H (r174_l0 app k_ v1 v2 v3 v4 H) := by
  intro k_
  induction k_ with
  | zero => intro _ _ _ _ _; exact f_none
  | succ k_ ih =>
    intro v1 v2 v3 v4 H
    rw [r174_l0]
    refine q_ (p_ rfl (s_lss rfl rfl) (f_nil (f_seq ?_)))
    refine f_if (fun h1 => ?_) (fun h1 => ?_)
    · refine kT 9 h1 rfl (f_skip (f_seq (f_block (q_ (m_ (.int .i64 v4) rfl (a_ (.int .i64 v4) rfl (n_ (m_ v2 rfl (m_ (.sl v1) rfl (m_ (.int .i64 v4) rfl (o_ck fun g2 => ?_)))))))))))
      refine p_ rfl (s_idx underlying25 ty3 rfl rfl g2) (o_bind fun x3 hx3 => p_ rfl (s_load underlying3 rfl rfl (ldI_eq hx3)) (o_bind fun p4 hp4 => o_bind fun x5 hx5 => p_ rfl (s_callv happ rfl rfl hp4) (o_know 16 rfl (asB_eq hx5) (f_nil ?_))))
      refine f_if (fun h6 => ?_) (fun h6 => ?_)
      · exact bT 16 h6 rfl (q_ (m_ (.int .i64 v4) rfl (a_ (.int .i64 v4) rfl (f_nil (f_ret (.tmp rfl (.nil)) rfl)))))
      · exact bF 16 h6 rfl (f_skip (f_inBlock (f_region (p_ rfl (s_add rfl rfl) (m_ (.int .i64 (w64 (v4 + 1))) rfl (f_nil (f_inLoop (f_keep [0, 1, 7, 8] (ih v1 v2 v3 (w64 (v4 + 1)) p4.2)))))))))
    · exact kF 9 h1 rfl (f_exit rfl (q_ (a_ (.int .i64 (-1)) rfl (f_nil (f_ret (.tmp rfl (.nil)) rfl)))))

theorem sim174 {app : App} (happ : AppSim prog app) {a0 : Sl} {a1 : AV} {H : Hp} {p : Int × Hp} (h : r174 app a0 a1 H = some p) : CallSim prog 174 [.sl a0, a1] H (.int .i64 p.1) p.2 := by
  refine callSim (fn := f174) (ret := ret174) func174 rfl Tryz.ntmps174 rfl ?_ h
  unfold r174
  exact q_ (a_ (.int .i64 0) rfl (f_nil (f_seq (q_ (m_ (.sl a0) rfl (p_ rfl (s_lenS rfl underlying25 rfl) (m_ (.int .i64 0) rfl (f_nil (f_block (f_loop (f_keep [0, 1, 7, 8] (s174_l0 happ FUEL a0 a1 (a0.len : Int) 0 H))))))))))))

/- 121 slices.ContainsFunc[[]int,int] -/
theorem ok121 : FnOk prog 121 := ⟨⟨f121, func121, by kernel_rfl, rfl⟩⟩
theorem sim121 {app : App} (happ : AppSim prog app) {a0 : Sl} {a1 : AV} {H : Hp} {p : Bool × Hp} (h : r121 app a0 a1 H = some p) : CallSim prog 121 [.sl a0, a1] H (.bool p.1) p.2 := by
  refine callSim (fn := f121) (ret := ret121) func121 rfl Tryz.ntmps121 rfl ?_ h
  unfold r121
  exact q_ (a_ (.bool false) rfl (n_ (m_ (.sl a0) rfl (m_ a1 rfl (o_bind fun p1 hp1 => p_ rfl (s_callF rfl ok174 (sim174 happ hp1)) (p_ rfl (s_geq rfl rfl) (a_ (.bool (decide (0 ≤ p1.1))) rfl (f_nil (f_ret (.tmp rfl (.nil)) rfl)))))))))

/- 79 (*congou/chest.Chest).has -/
theorem ok79 : FnOk prog 79 := ⟨⟨f79, func79, by kernel_rfl, rfl⟩⟩
theorem sim79 {app : App} (happ : AppSim prog app) {a0b : Nat} {a0o : Nat} {a1 : Sl} {H : Hp} {p : Bool × Hp} (h : r79 app a0b a0o a1 H = some p) : CallSim prog 79 [.ptr a0b a0o, .sl a1] H (.bool p.1) p.2 := by
  refine callSim (fn := f79) (ret := ret79) func79 rfl Tryz.ntmps79 rfl ?_ h
  unfold r79
  exact q_ (p_ rfl (s_box1 (v := .ptr a0b a0o) rfl rfl) (a_ (.bool false) rfl (o_hp fun H1 hH1 => n_ (m_ (.sl a1) rfl (p_ rfl (s_makeFunc rfl rfl) (o_bind fun p2 hp2 => p_ rfl (s_callF rfl ok121 (sim121 happ hp2)) (p_ rfl (s_not rfl) (a_ (.bool (!p2.1)) rfl (f_nil (f_ret (.tmp rfl (.nil)) rfl))))))))))

/- 40 (*congou/chest.Chest).Go -/
theorem ok40 : FnOk prog 40 := ⟨⟨f40, func40, by kernel_rfl, rfl⟩⟩
theorem sim40 {app : App} (happ : AppSim prog app) {a0b : Nat} {a0o : Nat} {a1 : Int} {H : Hp} {p : Int × Hp} (h : r40 app a0b a0o a1 H = some p) : CallSim prog 40 [.ptr a0b a0o, .int .i64 a1] H (.int .i64 p.1) p.2 := by
  refine callSim (fn := f40) (ret := ret40) func40 rfl Tryz.ntmps40 rfl ?_ h
  unfold r40
  refine q_ (a_ (.int .i64 0) rfl (f_nil (f_seq (f_block (q_ (m_ (.ptr a0b a0o) rfl (o_bind fun p1 hp1 => p_ rfl (s_callF rfl ok60 (sim60 hp1)) (a_ (.bool p1.1) rfl (f_nil ?_)))))))))
  refine f_if (fun h2 => ?_) (fun h2 => ?_)
  · exact bT 5 h2 rfl (q_ (a_ (.int .i64 1) rfl (f_nil (f_ret (.tmp rfl (.nil)) rfl))))
  · refine bF 5 h2 rfl (q_ (m_ (.ptr a0b a0o) rfl (m_ (.int .i64 a1) rfl (p_ rfl (s_buildSlice (cs := [.int .i64 a1]) underlying25 ty3 (by decide) (by decide) rfl (by decide) rfl) (o_bind fun p3 hp3 => p_ rfl (s_callF rfl ok79 (sim79 happ hp3)) (p_ rfl (s_not rfl) (a_ (.bool (!p3.1)) rfl (f_nil ?_))))))))
    refine f_if (fun h4 => ?_) (fun h4 => ?_)
    · refine f_know 8 rfl (bool_notT h4) (f_condF rfl (f_skip (f_inBlock (q_ (m_ (.ptr a0b a0o) rfl (m_ (.int .i64 a1) rfl (p_ rfl (s_nilCheck rfl) (p_ rfl (s_fieldAddr underlying118 rfl ty3 rfl) (o_bind fun H5 hH5 => p_ rfl (s_store (s := 1) ty3 rfl rfl rfl hH5) (n_ (a_ (.int .i64 0) rfl ?_)))))))))))
      exact f_nil (f_ret (.tmp rfl (.nil)) rfl)
    · exact f_know 8 rfl (bool_notF h4) (f_condT rfl (q_ (a_ (.int .i64 2) rfl (f_nil (f_ret (.tmp rfl (.nil)) rfl)))))

/- 36 congou/chest.Read -/
theorem ok36 : FnOk prog 36 := ⟨⟨f36, func36, by kernel_rfl, rfl⟩⟩
theorem s36_j2 {app : App} (happ : AppSim prog app) (kt0 : Sl → Nat → Nat → Hp → Option ((AV × Int) × Hp)) (hkt0 : ∀ (v1 : Sl) (v2 v3 : Nat) (H : Hp), Fin prog f36 ret36 74 (todoAt (bodyOf f36) [1, 1, 0, 0, 0] []) [(0, .sl v1), (4, .ptr v2 v3)] H (kt0 v1 v2 v3 H)) (v1 : Sl) (v2 v3 : Nat) (v4 : ByteArray) (v5 : Bool) (H : Hp) : Fin prog f36 ret36 74 (todoAt (bodyOf f36) [1, 1, 0, 0, 0, 1, 0, 1, 1, 1, 0, 1, 1] []) [(0, .sl v1), (4, .ptr v2 v3), (6, .str v4), (64, .bool v5)] H (r36_j2 app kt0 v1 v2 v3 v4 v5 H) := by
  unfold r36_j2
  refine f_if (fun h1 => ?_) (fun h1 => ?_)
  · exact bT 64 h1 rfl (q_ (a_ (.nilptr) rfl (a_ (.int .i64 3) rfl (f_nil (f_ret (.tmp rfl (.tmp rfl (.nil))) rfl)))))
  · exact bF 64 h1 rfl (f_skip (f_region (m_ (.sl v1) rfl (m_ (.str v4) rfl (p_ rfl (s_lenStr rfl underlying9 rfl) (p_ rfl (s_add rfl rfl) (o_ck fun g2 => p_ rfl (s_slice underlying75 ty5 rfl rfl rfl g2.1 g2.2) (a_ (.sl (v1.cut 1 (w64 (2 + (v4.size : Int)) : Int).toNat ((v1.len : Int) : Int).toNat)) rfl (f_nil (f_inBlock (f_inLoop (f_keep [0, 4] (hkt0 (v1.cut 1 (w64 (2 + (v4.size : Int)) : Int).toNat ((v1.len : Int) : Int).toNat) v2 v3 H)))))))))))))

theorem s36_j1 {app : App} (happ : AppSim prog app) (kt0 : Sl → Nat → Nat → Hp → Option ((AV × Int) × Hp)) (hkt0 : ∀ (v1 : Sl) (v2 v3 : Nat) (H : Hp), Fin prog f36 ret36 74 (todoAt (bodyOf f36) [1, 1, 0, 0, 0] []) [(0, .sl v1), (4, .ptr v2 v3)] H (kt0 v1 v2 v3 H)) (v1 : Sl) (v2 v3 : Nat) (v4 : Bool) (H : Hp) : Fin prog f36 ret36 74 (todoAt (bodyOf f36) [1, 1, 0, 0, 0, 1, 0, 0, 1] []) [(0, .sl v1), (4, .ptr v2 v3), (34, .bool v4)] H (r36_j1 app kt0 v1 v2 v3 v4 H) := by
  unfold r36_j1
  refine f_if (fun h1 => ?_) (fun h1 => ?_)
  · exact bT 34 h1 rfl (q_ (a_ (.nilptr) rfl (a_ (.int .i64 3) rfl (f_nil (f_ret (.tmp rfl (.tmp rfl (.nil))) rfl)))))
  · refine bF 34 h1 rfl (f_skip (q_ (m_ (.ptr v2 v3) rfl (p_ rfl (s_nilCheck rfl) (p_ rfl (s_fieldAddr underlying118 rfl ty116 rfl) (o_bind fun x2 hx2 => p_ rfl (s_load underlying116 rfl rfl (ldSl_eq hx2)) (p_ rfl (s_lenS rfl underlying116 rfl) (a_ (.int .i64 (x2.len : Int)) rfl (n_ (m_ (.sl v1) rfl ?_))))))))))
    refine m_ (.sl v1) rfl (o_ck fun g3 => p_ rfl (s_idx underlying75 ty5 rfl rfl g3) (o_bind fun x4 hx4 => p_ rfl (s_load underlying5 rfl rfl (ldI_eq hx4)) (p_ rfl (s_convInt underlying5 underlying3 rfl) (p_ rfl (s_add rfl rfl) (o_ck fun g5 => p_ rfl (s_slice underlying75 ty5 rfl rfl rfl g5.1 g5.2) (o_bind fun x6 hx6 => o_bind fun x7 hx7 => p_ rfl (s_bytesStr underlying75 underlying9 underlying5 rfl hx6 hx7) (a_ (.str (strOfNums x7)) rfl (f_nil (f_seq (f_seq ?_))))))))))
    refine f_region (m_ (.ptr v2 v3) rfl (m_ (.str (strOfNums x7)) rfl (o_bind fun p8 hp8 => p_ rfl (s_callF rfl ok20 (sim20 happ hp8)) (m_ (.tup [.str p8.1.1, .int .i64 p8.1.2]) rfl (p_ rfl (s_extract (r := .str p8.1.1) rfl rfl) (p_ rfl (s_extract (r := .int .i64 p8.1.2) rfl rfl) (a_ (.str p8.1.1) rfl (a_ (.int .i64 p8.1.2) rfl (n_ (m_ (.int .i64 p8.1.2) rfl (p_ rfl (s_neq rfl rfl) (m_ (.bool (decide (p8.1.2 ≠ 0))) rfl ?_))))))))))))
    refine o_if (fun h9 => ?_) (fun h9 => ?_)
    · exact o_know 56 rfl (dec_true h9) (no_ rfl (no_ rfl (no_ rfl (no_ rfl (no_ rfl (no_ rfl (no_ rfl (p_ rfl (s_pickT (v := .bool true) rfl rfl) (f_nil (f_keep [0, 4, 6, 64] (s36_j2 happ _ hkt0 v1 v2 v3 (strOfNums x7) true p8.2)))))))))))
    · exact o_know 56 rfl (dec_false h9) (m_ (.ptr v2 v3) rfl (p_ rfl (s_nilCheck rfl) (p_ rfl (s_fieldAddr underlying118 rfl ty116 rfl) (o_bind fun x10 hx10 => p_ rfl (s_load underlying116 rfl rfl (ldSl_eq hx10)) (p_ rfl (s_lenS rfl underlying116 rfl) (m_ (.int .i64 (x2.len : Int)) rfl (p_ rfl (s_eql rfl rfl) (p_ rfl (s_pickF (v := .bool (decide ((x10.len : Int) = (x2.len : Int)))) rfl rfl) (f_nil (f_keep [0, 4, 6, 64] (s36_j2 happ _ hkt0 v1 v2 v3 (strOfNums x7) (decide ((x10.len : Int) = (x2.len : Int))) p8.2)))))))))))

theorem s36_l0 {app : App} (happ : AppSim prog app) : ∀ (k_ : Nat) (v1 : Sl) (v2 v3 : Nat) (H : Hp), Fin prog f36 ret36 74 (todoAt (bodyOf f36) [1, 1, 0, 0, 0] []) [(0, .sl v1), (4, .ptr v2 v3)] H (r36_l0 app k_ v1 v2 v3 H) := by
  intro k_
  induction k_ with
  | zero => intro _ _ _ _; exact f_none
  | succ k_ ih =>
    intro v1 v2 v3 H
    rw [r36_l0]
    refine f_seq (q_ (m_ (.sl v1) rfl (p_ rfl (s_lenS rfl underlying75 rfl) (p_ rfl (s_gtr rfl rfl) (f_nil ?_)))))
    refine f_if (fun h1 => ?_) (fun h1 => ?_)
    · refine kT 12 h1 rfl (f_skip (f_block (f_seq (q_ (m_ (.sl v1) rfl (p_ rfl (s_lenS rfl underlying75 rfl) (p_ rfl (s_lss rfl rfl) (m_ (.bool (decide ((v1.len : Int) < 2))) rfl ?_))))))))
      refine o_if (fun h2 => ?_) (fun h2 => ?_)
      · refine o_know 16 rfl (dec_true h2) (no_ rfl (no_ rfl (no_ rfl (no_ rfl (no_ rfl (no_ rfl (no_ rfl (no_ rfl (p_ rfl (s_pickT (v := .bool true) rfl rfl) (m_ (.bool true) rfl (no_ rfl (no_ rfl (no_ rfl (no_ rfl (no_ rfl ?_)))))))))))))))
        exact no_ rfl (no_ rfl (p_ rfl (s_pickT (v := .bool true) rfl rfl) (f_nil (f_keep [0, 4, 34] (s36_j1 happ _ ih v1 v2 v3 true H)))))
      · refine o_know 16 rfl (dec_false h2) (m_ (.sl v1) rfl (p_ rfl (s_lenS rfl underlying75 rfl) (m_ (.sl v1) rfl (o_ck fun g3 => p_ rfl (s_idx underlying75 ty5 rfl rfl g3) (o_bind fun x4 hx4 => p_ rfl (s_load underlying5 rfl rfl (ldI_eq hx4)) (p_ rfl (s_convInt underlying5 underlying3 rfl) (p_ rfl (s_add rfl rfl) (p_ rfl (s_lss rfl rfl) (p_ rfl (s_pickF (v := .bool (decide ((v1.len : Int) < (w64 (2 + (w64 (x4))))))) rfl rfl) (m_ (.bool (decide ((v1.len : Int) < (w64 (2 + (w64 (x4))))))) rfl ?_))))))))))
        refine o_if (fun h5 => ?_) (fun h5 => ?_)
        · exact o_know 26 rfl (dec_true h5) (no_ rfl (no_ rfl (no_ rfl (no_ rfl (no_ rfl (no_ rfl (no_ rfl (p_ rfl (s_pickT (v := .bool true) rfl rfl) (f_nil (f_keep [0, 4, 34] (s36_j1 happ _ ih v1 v2 v3 true H)))))))))))
        · exact o_know 26 rfl (dec_false h5) (m_ (.ptr v2 v3) rfl (m_ (.sl v1) rfl (o_ck fun g6 => p_ rfl (s_idx underlying75 ty5 rfl rfl g6) (o_bind fun x7 hx7 => p_ rfl (s_load underlying5 rfl rfl (ldI_eq hx7)) (p_ rfl (s_convInt underlying5 underlying3 rfl) (o_bind fun p8 hp8 => p_ rfl (s_callF rfl ok40 (sim40 happ hp8)) (p_ rfl (s_neq rfl rfl) (p_ rfl (s_pickF (v := .bool (decide (p8.1 ≠ 0))) rfl rfl) (f_nil (f_keep [0, 4, 34] (s36_j1 happ _ ih v1 v2 v3 (decide (p8.1 ≠ 0)) p8.2)))))))))))
    · refine kF 12 h1 rfl (f_exit rfl (q_ (m_ (.ptr v2 v3) rfl (p_ rfl (s_nilCheck rfl) (p_ rfl (s_fieldAddr underlying118 rfl ty3 rfl) (o_bind fun H9 hH9 => p_ rfl (s_store (s := 1) ty3 rfl rfl rfl hH9) (n_ (m_ (.ptr v2 v3) rfl (a_ (.ptr v2 v3) rfl (a_ (.int .i64 0) rfl ?_))))))))))
      exact f_nil (f_ret (.tmp rfl (.tmp rfl (.nil))) rfl)

theorem sim36 {app : App} (happ : AppSim prog app) {a0 : Sl} {H : Hp} {p : (AV × Int) × Hp} (h : r36 app a0 H = some p) : CallSim prog 36 [.sl a0] H (.tup [p.1.1, .int .i64 p.1.2]) p.2 := by
  refine callSim (fn := f36) (ret := ret36) func36 rfl Tryz.ntmps36 rfl ?_ h
  unfold r36
  exact q_ (a_ (.nilptr) rfl (a_ (.int .i64 0) rfl (n_ (o_bind fun p1 hp1 => p_ rfl (s_callF rfl ok47 (sim47 hp1)) (a_ (.ptr p1.1.1 p1.1.2) rfl (f_nil (f_seq (f_block (f_loop (f_keep [0, 4] (s36_l0 happ FUEL a0 p1.1.1 p1.1.2 p1.2)))))))))))

/- 39 bytes.Equal -/
theorem ok39 : FnOk prog 39 := ⟨⟨f39, func39, by kernel_rfl, rfl⟩⟩
theorem sim39 {a0 : Sl} {a1 : Sl} {H : Hp} {p : Bool × Hp} (h : r39 a0 a1 H = some p) : CallSim prog 39 [.sl a0, .sl a1] H (.bool p.1) p.2 := by
  refine callSim (fn := f39) (ret := ret39) func39 rfl Tryz.ntmps39 rfl ?_ h
  unfold r39
  refine q_ (a_ (.bool false) rfl (n_ (m_ (.sl a0) rfl (o_bind fun x1 hx1 => o_bind fun x2 hx2 => p_ rfl (s_bytesStr underlying75 underlying9 underlying5 rfl hx1 hx2) (m_ (.sl a1) rfl (o_bind fun x3 hx3 => o_bind fun x4 hx4 => p_ rfl (s_bytesStr underlying75 underlying9 underlying5 rfl hx3 hx4) (p_ rfl (s_eqStr rfl rfl) (a_ (.bool (strEq (strOfNums x2) (strOfNums x4))) rfl ?_))))))))
  exact f_nil (f_ret (.tmp rfl (.nil)) rfl)

/- 48 congou/congouref10.New -/
theorem ok48 : FnOk prog 48 := ⟨⟨f48, func48, by kernel_rfl, rfl⟩⟩
theorem sim48 {H : Hp} {p : (Nat × Nat) × Hp} (h : r48 H = some p) : CallSim prog 48 [] H (.ptr p.1.1 p.1.2) p.2 := by
  refine callSim (fn := f48) (ret := ret48) func48 rfl Tryz.ntmps48 rfl ?_ h
  unfold r48
  exact q_ (a_ (.nilptr) rfl (n_ (p_ rfl (s_build (cs := [.int .i64 0, .str (ByteArray.mk #[])]) underlying152 ty152 rfl pl152 rfl) (p_ rfl (s_buildSlice (cs := [.int .i64 0, .str (ByteArray.mk #[])]) underlying138 ty152 (by decide) (by decide) rfl (by decide) rfl) (p_ rfl (s_build (cs := [.sl ⟨false, H.n, 0, 1, 1, 0⟩, .int .i64 0]) underlying140 ty140 rfl pl140 rfl) (p_ rfl (s_box (v := .agg [.sl ⟨false, H.n, 0, 1, 1, 0⟩, .int .i64 0]) rfl rfl) (a_ (.ptr ((H.push (.cells [.int .i64 0, .str (ByteArray.mk #[])] false)).n) 0) rfl (o_hp fun H1 hH1 => f_nil (f_ret (.tmp rfl (.nil)) rfl)))))))))

/- 139 (*congou/congouref10.Chest).Way -/
theorem ok139 : FnOk prog 139 := ⟨⟨f139, func139, by kernel_rfl, rfl⟩⟩
theorem sim139 {app : App} (happ : AppSim prog app) {a0b : Nat} {a0o : Nat} {a1 : Int} {H : Hp} {p : Sl × Hp} (h : r139 app a0b a0o a1 H = some p) : CallSim prog 139 [.ptr a0b a0o, .int .i64 a1] H (.sl p.1) p.2 := by
  refine callSim (fn := f139) (ret := ret139) func139 rfl Tryz.ntmps139 rfl ?_ h
  unfold r139
  refine q_ (a_ (.sl ⟨true, 0, 0, 0, 0, 0⟩) rfl (f_nil (f_seq (q_ (m_ (.int .i64 a1) rfl (p_ rfl (s_eql rfl rfl) (f_nil ?_)))))))
  refine f_if (fun h1 => ?_) (fun h1 => ?_)
  · exact kT 7 h1 rfl (q_ (a_ (.sl ⟨true, 0, 0, 0, 0, 0⟩) rfl (f_nil (f_ret (.tmp rfl (.nil)) rfl))))
  · refine kF 7 h1 rfl (f_skip (q_ (m_ (.ptr a0b a0o) rfl (m_ (.ptr a0b a0o) rfl (p_ rfl (s_nilCheck rfl) (p_ rfl (s_fieldAddr underlying140 rfl ty138 rfl) (o_bind fun x2 hx2 => p_ rfl (s_load underlying138 rfl rfl (ldSl_eq hx2)) (m_ (.int .i64 a1) rfl (o_ck fun g3 => p_ rfl (s_idx underlying138 ty152 rfl rfl g3) (p_ rfl (s_fieldAddr underlying152 rfl ty3 rfl) (o_bind fun x4 hx4 => ?_)))))))))))
    refine p_ rfl (s_load underlying3 rfl rfl (ldI_eq hx4)) (o_bind fun p5 hp5 => o_bind fun x6 hx6 => p_ rfl (s_callA happ rfl hp5) (o_know 17 rfl (asSl_eq hx6) (a_ (.sl x6) rfl (n_ (m_ (.sl x6) rfl (m_ (.sl x6) rfl (p_ rfl (s_lenS rfl underlying25 rfl) (m_ (.sl x6) rfl (p_ rfl (s_lenS rfl underlying25 rfl) (o_ck fun g7 => p_ rfl (s_slice3 underlying25 ty3 rfl rfl rfl rfl g7) ?_))))))))))
    exact m_ (.int .i64 a1) rfl (p_ rfl (s_buildSlice (cs := [.int .i64 a1]) underlying25 ty3 (by decide) (by decide) rfl (by decide) rfl) (o_bind fun x8 hx8 => p_ rfl (s_ap rfl rfl underlying25 underlying25 ty3 rfl rfl rfl rfl rfl rfl rfl hx8) (a_ (.sl x8.1) rfl (f_nil (f_ret (.tmp rfl (.nil)) rfl)))))

/- 85 (*congou/congouref10.Chest).Path -/
theorem ok85 : FnOk prog 85 := ⟨⟨f85, func85, by kernel_rfl, rfl⟩⟩
theorem s85_l0 {app : App} (happ : AppSim prog app) : ∀ (k_ v1 v2 : Nat) (v3 v4 : Sl) (v5 v6 : Int) (H : Hp), Fin prog f85 ret85 29 (todoAt (bodyOf f85) [1, 1, 0, 1, 0, 0] []) [(0, .ptr v1 v2), (5, .sl v3), (10, .sl v4), (11, .int .i64 v5), (12, .int .i64 v6)] H (r85_l0 app k_ v1 v2 v3 v4 v5 v6 H) := by
  intro k_
  induction k_ with
  | zero => intro _ _ _ _ _ _ _; exact f_none
  | succ k_ ih =>
    intro v1 v2 v3 v4 v5 v6 H
    rw [r85_l0]
    refine q_ (p_ rfl (s_lss rfl rfl) (f_nil (f_seq ?_)))
    refine f_if (fun h1 => ?_) (fun h1 => ?_)
    · refine kT 13 h1 rfl (f_skip (f_seq (f_block (q_ (o_ck fun g2 => p_ rfl (s_idx underlying25 ty3 rfl rfl g2) (o_bind fun x3 hx3 => p_ rfl (s_load underlying3 rfl rfl (ldI_eq hx3)) (a_ (.int .i64 x3) rfl (f_nil (f_region (m_ (.sl v3) rfl (m_ (.ptr v1 v2) rfl ?_)))))))))))
      refine p_ rfl (s_nilCheck rfl) (p_ rfl (s_fieldAddr underlying140 rfl ty138 rfl) (o_bind fun x4 hx4 => p_ rfl (s_load underlying138 rfl rfl (ldSl_eq hx4)) (m_ (.int .i64 x3) rfl (o_ck fun g5 => p_ rfl (s_idx underlying138 ty152 rfl rfl g5) (p_ rfl (s_fieldAddr underlying152 rfl ty9 rfl) (o_bind fun x6 hx6 => p_ rfl (s_load underlying9 rfl rfl (ldStr_eq hx6)) (p_ rfl (s_buildSlice (cs := [.str x6]) underlying22 ty9 (by decide) (by decide) rfl (by decide) rfl) (o_bind fun x7 hx7 => p_ rfl (s_ap rfl rfl underlying22 underlying22 ty9 rfl rfl rfl rfl rfl rfl rfl hx7) (a_ (.sl x7.1) rfl (f_nil (f_inBlock ?_)))))))))))
      exact f_region (p_ rfl (s_add rfl rfl) (m_ (.int .i64 (w64 (v6 + 1))) rfl (f_nil (f_inLoop (f_keep [0, 5, 10, 11, 12] (ih v1 v2 x7.1 v4 v5 (w64 (v6 + 1)) x7.2))))))
    · exact kF 13 h1 rfl (f_exit rfl (q_ (m_ (.sl v3) rfl (a_ (.sl v3) rfl (f_nil (f_ret (.tmp rfl (.nil)) rfl))))))

theorem sim85 {app : App} (happ : AppSim prog app) {a0b : Nat} {a0o : Nat} {a1 : Int} {H : Hp} {p : Sl × Hp} (h : r85 app a0b a0o a1 H = some p) : CallSim prog 85 [.ptr a0b a0o, .int .i64 a1] H (.sl p.1) p.2 := by
  refine callSim (fn := f85) (ret := ret85) func85 rfl Tryz.ntmps85 rfl ?_ h
  unfold r85
  refine q_ (a_ (.sl ⟨true, 0, 0, 0, 0, 0⟩) rfl (n_ (a_ (.sl ⟨true, 0, 0, 0, 0, 0⟩) rfl (f_nil (f_seq (q_ (m_ (.ptr a0b a0o) rfl (m_ (.int .i64 a1) rfl (o_bind fun p1 hp1 => p_ rfl (s_callF rfl ok139 (sim139 happ hp1)) (p_ rfl (s_lenS rfl underlying25 rfl) ?_))))))))))
  exact m_ (.int .i64 0) rfl (f_nil (f_block (f_loop (f_keep [0, 5, 10, 11, 12] (s85_l0 happ FUEL a0b a0o ⟨true, 0, 0, 0, 0, 0⟩ p1.1 (p1.1.len : Int) 0 p1.2)))))

end Go.Lt.P10
