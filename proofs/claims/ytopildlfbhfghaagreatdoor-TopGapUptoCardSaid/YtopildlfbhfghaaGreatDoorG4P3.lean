/- PRINTED BY A PROGRAM OF OURS: what each function that 'TopGap' reaches computes on the abstract heap, and that the translated code does just that. Nothing is asked of the input. -/
import Derived.Test.YtopildlfbhfghaaGreatDoorG4P2
set_option linter.unusedVariables false
set_option linter.unusedSimpArgs false
set_option maxRecDepth 100000
set_option maxHeartbeats 4000000
namespace Go.Lt.P10
open Go Go.Lt Go.Proofs Go.Proofs.Tryz
/- 62 (*congou/chest.state).ask -/
theorem ok62 : FnOk prog 62 := ⟨⟨f62, func62, by kernel_rfl, rfl⟩⟩
theorem s62_j0 {app : App} (happ : AppSim prog app) (v1 v2 v3 : ByteArray) (v4 : AV) (H : Hp) : Fin prog f62 ret62 74 (todoAt (bodyOf f62) [1, 1, 1, 1] []) [(1, .str v1), (6, .str v2), (9, .str v3), (10, v4)] H (r62_j0 app v1 v2 v3 v4 H) := by
  unfold r62_j0
  refine q_ (m_ (.str v3) rfl (m_ (.str v1) rfl (o_bind fun p1 hp1 => p_ rfl (s_callF rfl ok108 (sim108 happ hp1)) (m_ (.tup [.agg [.sl p1.1.1, .sl p1.1.2.1], .bool p1.1.2.2]) rfl (p_ rfl (s_extract (r := .agg [.sl p1.1.1, .sl p1.1.2.1]) rfl rfl) (p_ rfl (s_extract (r := .bool p1.1.2.2) rfl rfl) (p_ rfl (s_alloc (zs := [.sl ⟨true, 0, 0, 0, 0, 0⟩, .sl ⟨true, 0, 0, 0, 0, 0⟩]) ty167 rfl rfl) (o_bind fun H2 hH2 => p_ rfl (s_stores ty167 rfl rfl rfl rfl hH2 (Nat.le_of_eq (sts_mono hH2).symm)) (a_ (.bool p1.1.2.2) rfl (f_nil (f_seq (f_seq ?_))))))))))))
  refine f_region (m_ (.bool p1.1.2.2) rfl (p_ rfl (s_not rfl) (f_nil ?_)))
  refine f_if (fun h3 => ?_) (fun h3 => ?_)
  · refine f_know 59 rfl (bool_notT h3) (f_condF rfl (f_skip (q_ (m_ v4 rfl (o_bind fun x4 hx4 => o_bind fun x5 hx5 => p_ rfl (s_loads underlying167 rfl ty167 rfl (lds_cons (ldSl_eq hx4) (lds_cons (ldSl_eq hx5) (lds_nil)))) (o_bind fun p6 hp6 => o_bind fun x7 hx7 => o_ck fun g8 => o_bind fun x9 hx9 => o_bind fun x10 hx10 => o_bind fun x11 hx11 => o_bind fun x12 hx12 => ?_))))))
    refine p_ rfl (s_callv happ rfl rfl hp6) (o_know 63 rfl (tupOf2 hx7 g8 (gete hx9 (asSl_eq hx10)) (gete hx11 (asI_eq hx12))) (m_ (.tup [.sl x10, .int .i64 x12]) rfl (p_ rfl (s_extract (r := .sl x10) rfl rfl) (p_ rfl (s_extract (r := .int .i64 x12) rfl rfl) (a_ (.sl x10) rfl (a_ (.int .i64 x12) rfl (f_nil (f_seq (q_ (m_ (.int .i64 x12) rfl (p_ rfl (s_neq rfl rfl) (f_nil ?_))))))))))))
    refine f_if (fun h13 => ?_) (fun h13 => ?_)
    · exact kT 67 h13 rfl (q_ (m_ (.int .i64 x12) rfl (a_ (.str (ByteArray.mk #[])) rfl (a_ (.int .i64 x12) rfl (f_nil (f_ret (.tmp rfl (.tmp rfl (.nil))) rfl))))))
    · refine kF 67 h13 rfl (f_skip (q_ (m_ (.str v2) rfl (p_ rfl (s_buildSlice (cs := [.str v2]) underlying22 ty9 (by decide) (by decide) rfl (by decide) rfl) (m_ (.sl x10) rfl (o_bind fun x14 hx14 => o_ck fun g15 => o_bind fun x16 hx16 => p_ rfl (s_append rfl rfl underlying22 underlying22 ty9 (by decide) rfl (by decide) rfl rfl hx14 g15 hx16) (o_bind fun p17 hp17 => o_bind fun x18 hx18 => p_ rfl (s_callA happ rfl hp17) (o_know 73 rfl (asStr_eq hx18) ?_))))))))
      exact a_ (.str x18) rfl (a_ (.int .i64 0) rfl (f_nil (f_ret (.tmp rfl (.tmp rfl (.nil))) rfl)))
  · exact f_know 59 rfl (bool_notF h3) (f_condT rfl (q_ (a_ (.str (ByteArray.mk #[])) rfl (a_ (.int .i64 3) rfl (f_nil (f_ret (.tmp rfl (.tmp rfl (.nil))) rfl))))))

theorem sim62 {app : App} (happ : AppSim prog app) {a0b : Nat} {a0o : Nat} {a1 : ByteArray} {H : Hp} {p : (ByteArray × Int) × Hp} (h : r62 app a0b a0o a1 H = some p) : CallSim prog 62 [.ptr a0b a0o, .str a1] H (.tup [.str p.1.1, .int .i64 p.1.2]) p.2 := by
  refine callSim (fn := f62) (ret := ret62) func62 rfl Tryz.ntmps62 rfl ?_ h
  unfold r62
  refine q_ (a_ (.str (ByteArray.mk #[])) rfl (a_ (.int .i64 0) rfl (n_ (m_ (.str a1) rfl (o_bind fun p1 hp1 => p_ rfl (s_callF rfl ok97 (sim97 hp1)) (m_ (.tup [.str p1.1.1, .str p1.1.2.1, .bool p1.1.2.2]) rfl (p_ rfl (s_extract (r := .str p1.1.1) rfl rfl) (p_ rfl (s_extract (r := .str p1.1.2.1) rfl rfl) (p_ rfl (s_extract (r := .bool p1.1.2.2) rfl rfl) (a_ (.str p1.1.1) rfl (a_ (.str p1.1.2.1) rfl ?_)))))))))))
  refine a_ (.bool p1.1.2.2) rfl (n_ (m_ (.ptr a0b a0o) rfl (p_ rfl (s_makeFunc rfl rfl) (a_ (.str (ByteArray.mk #[])) rfl (a_ (.fn 98 [.ptr a0b a0o] []) rfl (f_nil (f_seq (q_ (m_ (.str p1.1.1) rfl (f_nil (f_block (f_seq ?_))))))))))))
  refine f_region (p_ rfl (s_eqStr rfl rfl) (a_ (.bool (strEq p1.1.1 (ByteArray.mk #[103, 97, 112]))) rfl (f_nil ?_)))
  refine f_if (fun h2 => ?_) (fun h2 => ?_)
  · exact bT 24 h2 rfl (f_skip (f_inBlock (f_keep [1, 6, 9, 10] (s62_j0 happ a1 p1.1.1 (ByteArray.mk #[]) (.fn 98 [.ptr a0b a0o] []) p1.2))))
  · refine bF 24 h2 rfl (q_ (p_ rfl (s_eqStr rfl rfl) (a_ (.bool (strEq p1.1.1 (ByteArray.mk #[104, 101, 97, 118, 121]))) rfl (f_nil ?_))))
    refine f_if (fun h3 => ?_) (fun h3 => ?_)
    · exact bT 26 h3 rfl (f_region (m_ (.ptr a0b a0o) rfl (p_ rfl (s_makeFunc rfl rfl) (a_ (.str (ByteArray.mk #[100])) rfl (a_ (.fn 99 [.ptr a0b a0o] []) rfl (f_nil (f_inBlock (f_keep [1, 6, 9, 10] (s62_j0 happ a1 p1.1.1 (ByteArray.mk #[100]) (.fn 99 [.ptr a0b a0o] []) p1.2)))))))))
    · refine bF 26 h3 rfl (q_ (p_ rfl (s_eqStr rfl rfl) (a_ (.bool (strEq p1.1.1 (ByteArray.mk #[111, 102, 116, 101, 110]))) rfl (f_nil ?_))))
      refine f_if (fun h4 => ?_) (fun h4 => ?_)
      · exact bT 30 h4 rfl (f_region (m_ (.ptr a0b a0o) rfl (p_ rfl (s_makeFunc rfl rfl) (a_ (.str (ByteArray.mk #[110])) rfl (a_ (.fn 100 [.ptr a0b a0o] []) rfl (f_nil (f_inBlock (f_keep [1, 6, 9, 10] (s62_j0 happ a1 p1.1.1 (ByteArray.mk #[110]) (.fn 100 [.ptr a0b a0o] []) p1.2)))))))))
      · refine bF 30 h4 rfl (q_ (p_ rfl (s_eqStr rfl rfl) (a_ (.bool (strEq p1.1.1 (ByteArray.mk #[116, 97, 105, 108]))) rfl (f_nil ?_))))
        refine f_if (fun h5 => ?_) (fun h5 => ?_)
        · exact bT 34 h5 rfl (f_region (m_ (.ptr a0b a0o) rfl (p_ rfl (s_makeFunc rfl rfl) (a_ (.fn 101 [.ptr a0b a0o] []) rfl (f_nil (f_inBlock (f_keep [1, 6, 9, 10] (s62_j0 happ a1 p1.1.1 (ByteArray.mk #[]) (.fn 101 [.ptr a0b a0o] []) p1.2))))))))
        · refine bF 34 h5 rfl (q_ (p_ rfl (s_eqStr rfl rfl) (a_ (.bool (strEq p1.1.1 (ByteArray.mk #[102, 97, 105, 114]))) rfl (f_nil ?_))))
          refine f_if (fun h6 => ?_) (fun h6 => ?_)
          · exact bT 38 h6 rfl (f_region (m_ (.ptr a0b a0o) rfl (p_ rfl (s_makeFunc rfl rfl) (a_ (.str (ByteArray.mk #[100, 100])) rfl (a_ (.fn 102 [.ptr a0b a0o] []) rfl (f_nil (f_inBlock (f_keep [1, 6, 9, 10] (s62_j0 happ a1 p1.1.1 (ByteArray.mk #[100, 100]) (.fn 102 [.ptr a0b a0o] []) p1.2)))))))))
          · refine bF 38 h6 rfl (q_ (p_ rfl (s_eqStr rfl rfl) (a_ (.bool (strEq p1.1.1 (ByteArray.mk #[114, 111, 117, 110, 100]))) rfl (f_nil ?_))))
            refine f_if (fun h7 => ?_) (fun h7 => ?_)
            · exact bT 42 h7 rfl (f_region (a_ (.str (ByteArray.mk #[100])) rfl (a_ (.fn 103 [] []) rfl (f_nil (f_inBlock (f_keep [1, 6, 9, 10] (s62_j0 happ a1 p1.1.1 (ByteArray.mk #[100]) (.fn 103 [] []) p1.2)))))))
            · refine bF 42 h7 rfl (q_ (p_ rfl (s_eqStr rfl rfl) (a_ (.bool (strEq p1.1.1 (ByteArray.mk #[99, 117, 114, 118, 101]))) rfl (f_nil ?_))))
              refine f_if (fun h8 => ?_) (fun h8 => ?_)
              · exact bT 44 h8 rfl (f_region (a_ (.str (ByteArray.mk #[100])) rfl (a_ (.fn 104 [] []) rfl (f_nil (f_inBlock (f_keep [1, 6, 9, 10] (s62_j0 happ a1 p1.1.1 (ByteArray.mk #[100]) (.fn 104 [] []) p1.2)))))))
              · refine bF 44 h8 rfl (q_ (p_ rfl (s_eqStr rfl rfl) (a_ (.bool (strEq p1.1.1 (ByteArray.mk #[115, 113, 117, 97, 114, 101]))) rfl (f_nil ?_))))
                refine f_if (fun h9 => ?_) (fun h9 => ?_)
                · exact bT 46 h9 rfl (f_region (a_ (.str (ByteArray.mk #[100, 100, 100, 100])) rfl (a_ (.fn 105 [] []) rfl (f_nil (f_inBlock (f_keep [1, 6, 9, 10] (s62_j0 happ a1 p1.1.1 (ByteArray.mk #[100, 100, 100, 100]) (.fn 105 [] []) p1.2)))))))
                · refine bF 46 h9 rfl (q_ (p_ rfl (s_eqStr rfl rfl) (a_ (.bool (strEq p1.1.1 (ByteArray.mk #[114, 111, 119]))) rfl (f_nil ?_))))
                  refine f_if (fun h10 => ?_) (fun h10 => ?_)
                  · exact bT 48 h10 rfl (f_region (a_ (.str (ByteArray.mk #[100, 100])) rfl (a_ (.fn 106 [] []) rfl (f_nil (f_inBlock (f_keep [1, 6, 9, 10] (s62_j0 happ a1 p1.1.1 (ByteArray.mk #[100, 100]) (.fn 106 [] []) p1.2)))))))
                  · refine bF 48 h10 rfl (q_ (p_ rfl (s_eqStr rfl rfl) (a_ (.bool (strEq p1.1.1 (ByteArray.mk #[108, 101, 97, 115, 116]))) rfl (f_nil ?_))))
                    refine f_if (fun h11 => ?_) (fun h11 => ?_)
                    · exact bT 50 h11 rfl (f_region (a_ (.str (ByteArray.mk #[100])) rfl (a_ (.fn 107 [] []) rfl (f_nil (f_inBlock (f_keep [1, 6, 9, 10] (s62_j0 happ a1 p1.1.1 (ByteArray.mk #[100]) (.fn 107 [] []) p1.2)))))))
                    · exact bF 50 h11 rfl (q_ (a_ (.str (ByteArray.mk #[])) rfl (a_ (.int .i64 3) rfl (f_nil (f_ret (.tmp rfl (.tmp rfl (.nil))) rfl)))))

/- 14 (*congou/chest.Chest).Ask -/
theorem ok14 : FnOk prog 14 := ⟨⟨f14, func14, by kernel_rfl, rfl⟩⟩
theorem sim14 {app : App} (happ : AppSim prog app) {a0b : Nat} {a0o : Nat} {a1 : ByteArray} {H : Hp} {p : (ByteArray × Int) × Hp} (h : r14 app a0b a0o a1 H = some p) : CallSim prog 14 [.ptr a0b a0o, .str a1] H (.tup [.str p.1.1, .int .i64 p.1.2]) p.2 := by
  refine callSim (fn := f14) (ret := ret14) func14 rfl Tryz.ntmps14 rfl ?_ h
  unfold r14
  refine q_ (a_ (.str (ByteArray.mk #[])) rfl (a_ (.int .i64 0) rfl (f_nil (f_seq (q_ (m_ (.ptr a0b a0o) rfl (o_bind fun p1 hp1 => p_ rfl (s_callF rfl ok60 (sim60 hp1)) (f_nil ?_))))))))
  refine f_if (fun h2 => ?_) (fun h2 => ?_)
  · exact bT 7 h2 rfl (q_ (a_ (.str (ByteArray.mk #[])) rfl (a_ (.int .i64 1) rfl (f_nil (f_ret (.tmp rfl (.tmp rfl (.nil))) rfl)))))
  · refine bF 7 h2 rfl (f_skip (q_ (m_ (.ptr a0b a0o) rfl (o_bind fun p3 hp3 => p_ rfl (s_callF rfl ok61 (sim61 hp3)) (m_ (.str a1) rfl (o_bind fun p4 hp4 => p_ rfl (s_callF rfl ok62 (sim62 happ hp4)) (p_ rfl (s_extract (r := .str p4.1.1) rfl rfl) (p_ rfl (s_extract (r := .int .i64 p4.1.2) rfl rfl) (a_ (.str p4.1.1) rfl (a_ (.int .i64 p4.1.2) rfl (f_nil ?_)))))))))))
    exact f_ret (.tmp rfl (.tmp rfl (.nil))) rfl

/- 16 congou/congoutop.takes -/
theorem ok16 : FnOk prog 16 := ⟨⟨f16, func16, by kernel_rfl, rfl⟩⟩
theorem sim16 {app : App} (happ : AppSim prog app) {H : Hp} {p : Bool × Hp} (h : r16 app H = some p) : CallSim prog 16 [] H (.bool p.1) p.2 := by
  refine callSim (fn := f16) (ret := ret16) func16 rfl Tryz.ntmps16 rfl ?_ h
  unfold r16
  refine q_ (a_ (.bool false) rfl (n_ (o_bind fun p1 hp1 => p_ rfl (s_callF rfl ok47 (sim47 hp1)) (a_ (.ptr p1.1.1 p1.1.2) rfl (n_ (m_ (.ptr p1.1.1 p1.1.2) rfl (o_bind fun p2 hp2 => p_ rfl (s_callF rfl ok20 (sim20 happ hp2)) (m_ (.tup [.str p2.1.1, .int .i64 p2.1.2]) rfl ?_))))))))
  refine p_ rfl (s_extract (r := .str p2.1.1) rfl rfl) (p_ rfl (s_extract (r := .int .i64 p2.1.2) rfl rfl) (a_ (.str p2.1.1) rfl (a_ (.int .i64 p2.1.2) rfl (n_ (m_ (.ptr p1.1.1 p1.1.2) rfl (o_bind fun p3 hp3 => p_ rfl (s_callF rfl ok14 (sim14 happ hp3)) (m_ (.tup [.str p3.1.1, .int .i64 p3.1.2]) rfl (p_ rfl (s_extract (r := .str p3.1.1) rfl rfl) (p_ rfl (s_extract (r := .int .i64 p3.1.2) rfl rfl) (a_ (.str p3.1.1) rfl (a_ (.int .i64 p3.1.2) rfl (f_nil ?_))))))))))))
  refine q_ (m_ (.int .i64 p2.1.2) rfl (p_ rfl (s_eql rfl rfl) (m_ (.bool (decide (p2.1.2 = 0))) rfl ?_)))
  refine o_if (fun h4 => ?_) (fun h4 => ?_)
  · refine o_know 19 rfl (dec_true h4) (m_ (.int .i64 p3.1.2) rfl (p_ rfl (s_eql rfl rfl) (p_ rfl (s_pickT (v := .bool (decide (p3.1.2 = 0))) rfl rfl) (m_ (.bool (decide (p3.1.2 = 0))) rfl ?_))))
    refine o_if (fun h5 => ?_) (fun h5 => ?_)
    · refine o_know 23 rfl (dec_true h5) (m_ (.str p2.1.1) rfl (p_ rfl (s_eqStr rfl rfl) (p_ rfl (s_pickT (v := .bool (strEq p2.1.1 (ByteArray.mk #[108, 101, 97, 102]))) rfl rfl) (m_ (.bool (strEq p2.1.1 (ByteArray.mk #[108, 101, 97, 102]))) rfl ?_))))
      refine o_if (fun h6 => ?_) (fun h6 => ?_)
      · exact o_know 27 rfl (bool_T h6) (m_ (.str p3.1.1) rfl (p_ rfl (s_eqStr rfl rfl) (p_ rfl (s_pickT (v := .bool (strEq p3.1.1 (ByteArray.mk #[103, 97, 112, 32, 48]))) rfl rfl) (a_ (.bool (strEq p3.1.1 (ByteArray.mk #[103, 97, 112, 32, 48]))) rfl (f_nil (f_ret (.tmp rfl (.nil)) rfl))))))
      · exact o_know 27 rfl (bool_F h6) (no_ rfl (no_ rfl (p_ rfl (s_pickF (v := .bool false) rfl rfl) (a_ (.bool false) rfl (f_nil (f_ret (.tmp rfl (.nil)) rfl))))))
    · exact o_know 23 rfl (dec_false h5) (no_ rfl (no_ rfl (p_ rfl (s_pickF (v := .bool false) rfl rfl) (m_ (.bool false) rfl (no_ rfl (no_ rfl (p_ rfl (s_pickF (v := .bool false) rfl rfl) (a_ (.bool false) rfl (f_nil (f_ret (.tmp rfl (.nil)) rfl))))))))))
  · exact o_know 19 rfl (dec_false h4) (no_ rfl (no_ rfl (p_ rfl (s_pickF (v := .bool false) rfl rfl) (m_ (.bool false) rfl (no_ rfl (no_ rfl (p_ rfl (s_pickF (v := .bool false) rfl rfl) (m_ (.bool false) rfl (no_ rfl (no_ rfl (p_ rfl (s_pickF (v := .bool false) rfl rfl) (a_ (.bool false) rfl (f_nil (f_ret (.tmp rfl (.nil)) rfl))))))))))))))

/- 94 slices.Max[[]int,int] -/
theorem ok94 : FnOk prog 94 := ⟨⟨f94, func94, by kernel_rfl, rfl⟩⟩
theorem s94_l0 : ∀ (k_ : Nat) (v1 : Sl) (v2 v3 : Int) (H : Hp), Fin prog f94 ret94 25 (todoAt (bodyOf f94) [1, 1, 1, 0, 1, 0, 0] []) [(0, .sl v1), (3, .int .i64 v2), (4, .int .i64 v3)] H (r94_l0 k_ v1 v2 v3 H) := by
  intro k_
  induction k_ with
  | zero => intro _ _ _ _; exact f_none
  | succ k_ ih =>
    intro v1 v2 v3 H
    rw [r94_l0]
    refine f_seq (q_ (m_ (.int .i64 v3) rfl (m_ (.sl v1) rfl (p_ rfl (s_lenS rfl underlying25 rfl) (p_ rfl (s_lss rfl rfl) (f_nil ?_))))))
    refine f_if (fun h1 => ?_) (fun h1 => ?_)
    · refine kT 15 h1 rfl (f_skip (f_seq (f_block (f_region (m_ (.int .i64 v2) rfl (m_ (.sl v1) rfl (m_ (.int .i64 v3) rfl (o_ck fun g2 => p_ rfl (s_idx underlying25 ty3 rfl rfl g2) (o_bind fun x3 hx3 => p_ rfl (s_load underlying3 rfl rfl (ldI_eq hx3)) (p_ rfl (s_max2 rfl rfl) (a_ (.int .i64 (if v2 < x3 then x3 else v2)) rfl (f_nil ?_))))))))))))
      exact f_inBlock (f_region (m_ (.int .i64 v3) rfl (p_ rfl (s_add rfl rfl) (a_ (.int .i64 (w64 (v3 + 1))) rfl (f_nil (f_inLoop (f_keep [0, 3, 4] (ih v1 (if v2 < x3 then x3 else v2) (w64 (v3 + 1)) H))))))))
    · exact kF 15 h1 rfl (f_exit rfl (q_ (m_ (.int .i64 v2) rfl (a_ (.int .i64 v2) rfl (f_nil (f_ret (.tmp rfl (.nil)) rfl))))))

theorem sim94 {a0 : Sl} {H : Hp} {p : Int × Hp} (h : r94 a0 H = some p) : CallSim prog 94 [.sl a0] H (.int .i64 p.1) p.2 := by
  refine callSim (fn := f94) (ret := ret94) func94 rfl Tryz.ntmps94 rfl ?_ h
  unfold r94
  refine q_ (a_ (.int .i64 0) rfl (f_nil (f_seq (q_ (m_ (.sl a0) rfl (p_ rfl (s_lenS rfl underlying25 rfl) (p_ rfl (s_lss rfl rfl) (f_nil ?_))))))))
  refine f_if (fun h1 => ?_) (fun h1 => ?_)
  · exact kT 7 h1 rfl (f_region (o_none))
  · refine kF 7 h1 rfl (f_skip (q_ (m_ (.sl a0) rfl (o_ck fun g2 => p_ rfl (s_idx underlying25 ty3 rfl rfl g2) (o_bind fun x3 hx3 => p_ rfl (s_load underlying3 rfl rfl (ldI_eq hx3)) (a_ (.int .i64 x3) rfl (f_nil (f_seq (q_ (a_ (.int .i64 1) rfl ?_))))))))))
    exact f_nil (f_block (f_loop (f_keep [0, 3, 4] (s94_l0 FUEL a0 x3 1 H))))

/- 110 slices.Min[[]int,int] -/
theorem ok110 : FnOk prog 110 := ⟨⟨f110, func110, by kernel_rfl, rfl⟩⟩
theorem s110_l0 : ∀ (k_ : Nat) (v1 : Sl) (v2 v3 : Int) (H : Hp), Fin prog f110 ret110 25 (todoAt (bodyOf f110) [1, 1, 1, 0, 1, 0, 0] []) [(0, .sl v1), (3, .int .i64 v2), (4, .int .i64 v3)] H (r110_l0 k_ v1 v2 v3 H) := by
  intro k_
  induction k_ with
  | zero => intro _ _ _ _; exact f_none
  | succ k_ ih =>
    intro v1 v2 v3 H
    rw [r110_l0]
    refine f_seq (q_ (m_ (.int .i64 v3) rfl (m_ (.sl v1) rfl (p_ rfl (s_lenS rfl underlying25 rfl) (p_ rfl (s_lss rfl rfl) (f_nil ?_))))))
    refine f_if (fun h1 => ?_) (fun h1 => ?_)
    · refine kT 15 h1 rfl (f_skip (f_seq (f_block (f_region (m_ (.int .i64 v2) rfl (m_ (.sl v1) rfl (m_ (.int .i64 v3) rfl (o_ck fun g2 => p_ rfl (s_idx underlying25 ty3 rfl rfl g2) (o_bind fun x3 hx3 => p_ rfl (s_load underlying3 rfl rfl (ldI_eq hx3)) (p_ rfl (s_min2 rfl rfl) (a_ (.int .i64 (if x3 < v2 then x3 else v2)) rfl (f_nil ?_))))))))))))
      exact f_inBlock (f_region (m_ (.int .i64 v3) rfl (p_ rfl (s_add rfl rfl) (a_ (.int .i64 (w64 (v3 + 1))) rfl (f_nil (f_inLoop (f_keep [0, 3, 4] (ih v1 (if x3 < v2 then x3 else v2) (w64 (v3 + 1)) H))))))))
    · exact kF 15 h1 rfl (f_exit rfl (q_ (m_ (.int .i64 v2) rfl (a_ (.int .i64 v2) rfl (f_nil (f_ret (.tmp rfl (.nil)) rfl))))))

theorem sim110 {a0 : Sl} {H : Hp} {p : Int × Hp} (h : r110 a0 H = some p) : CallSim prog 110 [.sl a0] H (.int .i64 p.1) p.2 := by
  refine callSim (fn := f110) (ret := ret110) func110 rfl Tryz.ntmps110 rfl ?_ h
  unfold r110
  refine q_ (a_ (.int .i64 0) rfl (f_nil (f_seq (q_ (m_ (.sl a0) rfl (p_ rfl (s_lenS rfl underlying25 rfl) (p_ rfl (s_lss rfl rfl) (f_nil ?_))))))))
  refine f_if (fun h1 => ?_) (fun h1 => ?_)
  · exact kT 7 h1 rfl (f_region (o_none))
  · refine kF 7 h1 rfl (f_skip (q_ (m_ (.sl a0) rfl (o_ck fun g2 => p_ rfl (s_idx underlying25 ty3 rfl rfl g2) (o_bind fun x3 hx3 => p_ rfl (s_load underlying3 rfl rfl (ldI_eq hx3)) (a_ (.int .i64 x3) rfl (f_nil (f_seq (q_ (a_ (.int .i64 1) rfl ?_))))))))))
    exact f_nil (f_block (f_loop (f_keep [0, 3, 4] (s110_l0 FUEL a0 x3 1 H))))

/- 63 congou/shares.are -/
theorem ok63 : FnOk prog 63 := ⟨⟨f63, func63, by kernel_rfl, rfl⟩⟩
theorem s63_j1 (kt0 : Sl → Sl → Int → Int → Hp → Option (Bool × Hp)) (hkt0 : ∀ (v1 v2 : Sl) (v3 v4 : Int) (H : Hp), Fin prog f63 ret63 39 (todoAt (bodyOf f63) [1, 0, 1, 0, 0] []) [(0, .sl v1), (5, .sl v2), (6, .int .i64 v3), (7, .int .i64 v4)] H (kt0 v1 v2 v3 v4 H)) (v1 v2 : Sl) (v3 v4 : Int) (v5 : Bool) (H : Hp) : Fin prog f63 ret63 39 (todoAt (bodyOf f63) [1, 0, 1, 0, 0, 1, 1, 0, 0, 1, 1] []) [(0, .sl v1), (5, .sl v2), (6, .int .i64 v3), (7, .int .i64 v4), (37, .bool v5)] H (r63_j1 kt0 v1 v2 v3 v4 v5 H) := by
  unfold r63_j1
  refine f_if (fun h1 => ?_) (fun h1 => ?_)
  · exact bT 37 h1 rfl (q_ (a_ (.bool false) rfl (f_nil (f_ret (.tmp rfl (.nil)) rfl))))
  · exact bF 37 h1 rfl (f_skip (f_inBlock (f_region (p_ rfl (s_add rfl rfl) (m_ (.int .i64 (w64 (v4 + 1))) rfl (f_nil (f_inLoop (f_keep [0, 5, 6, 7] (hkt0 v1 v2 v3 (w64 (v4 + 1)) H)))))))))

theorem s63_l0 : ∀ (k_ : Nat) (v1 v2 : Sl) (v3 v4 : Int) (H : Hp), Fin prog f63 ret63 39 (todoAt (bodyOf f63) [1, 0, 1, 0, 0] []) [(0, .sl v1), (5, .sl v2), (6, .int .i64 v3), (7, .int .i64 v4)] H (r63_l0 k_ v1 v2 v3 v4 H) := by
  intro k_
  induction k_ with
  | zero => intro _ _ _ _ _; exact f_none
  | succ k_ ih =>
    intro v1 v2 v3 v4 H
    rw [r63_l0]
    refine q_ (p_ rfl (s_lss rfl rfl) (f_nil (f_seq ?_)))
    refine f_if (fun h1 => ?_) (fun h1 => ?_)
    · refine kT 8 h1 rfl (f_skip (f_seq (f_block (q_ (o_ck fun g2 => p_ rfl (s_idx underlying31 ty25 rfl rfl g2) (o_bind fun x3 hx3 => p_ rfl (s_load underlying25 rfl rfl (ldSl_eq hx3)) (a_ (.sl x3) rfl (n_ (m_ (.sl x3) rfl ?_)))))))))
      refine p_ rfl (s_lenS rfl underlying25 rfl) (p_ rfl (s_lss rfl rfl) (m_ (.bool (decide ((x3.len : Int) < 1))) rfl ?_))
      refine o_if (fun h4 => ?_) (fun h4 => ?_)
      · refine o_know 14 rfl (dec_true h4) (no_ rfl (no_ rfl (no_ rfl (p_ rfl (s_pickT (v := .bool true) rfl rfl) (m_ (.bool true) rfl (no_ rfl (no_ rfl (no_ rfl (no_ rfl (no_ rfl (no_ rfl (no_ rfl (p_ rfl (s_pickT (v := .bool true) rfl rfl) (m_ (.bool true) rfl (no_ rfl ?_)))))))))))))))
        exact no_ rfl (no_ rfl (p_ rfl (s_pickT (v := .bool true) rfl rfl) (m_ (.bool true) rfl (no_ rfl (no_ rfl (no_ rfl (p_ rfl (s_pickT (v := .bool true) rfl rfl) (f_nil (f_keep [0, 5, 6, 7, 37] (s63_j1 _ ih v1 v2 v3 v4 true H))))))))))
      · refine o_know 14 rfl (dec_false h4) (m_ (.sl x3) rfl (p_ rfl (s_lenS rfl underlying25 rfl) (p_ rfl (s_gtr rfl rfl) (p_ rfl (s_pickF (v := .bool (decide (6 < (x3.len : Int)))) rfl rfl) (m_ (.bool (decide (6 < (x3.len : Int)))) rfl ?_)))))
        refine o_if (fun h5 => ?_) (fun h5 => ?_)
        · refine o_know 19 rfl (dec_true h5) (no_ rfl (no_ rfl (no_ rfl (no_ rfl (no_ rfl (no_ rfl (no_ rfl (p_ rfl (s_pickT (v := .bool true) rfl rfl) (m_ (.bool true) rfl (no_ rfl (no_ rfl (no_ rfl (p_ rfl (s_pickT (v := .bool true) rfl rfl) (m_ (.bool true) rfl (no_ rfl ?_)))))))))))))))
          exact no_ rfl (no_ rfl (p_ rfl (s_pickT (v := .bool true) rfl rfl) (f_nil (f_keep [0, 5, 6, 7, 37] (s63_j1 _ ih v1 v2 v3 v4 true H)))))
        · refine o_know 19 rfl (dec_false h5) (m_ (.sl x3) rfl (p_ rfl (s_lenS rfl underlying25 rfl) (m_ (.sl v1) rfl (o_ck fun g6 => p_ rfl (s_idx underlying31 ty25 rfl rfl g6) (o_bind fun x7 hx7 => p_ rfl (s_load underlying25 rfl rfl (ldSl_eq hx7)) (p_ rfl (s_lenS rfl underlying25 rfl) (p_ rfl (s_neq rfl rfl) (p_ rfl (s_pickF (v := .bool (decide ((x3.len : Int) ≠ (x7.len : Int)))) rfl rfl) (m_ (.bool (decide ((x3.len : Int) ≠ (x7.len : Int)))) rfl ?_)))))))))
          refine o_if (fun h8 => ?_) (fun h8 => ?_)
          · exact o_know 28 rfl (dec_true h8) (no_ rfl (no_ rfl (no_ rfl (p_ rfl (s_pickT (v := .bool true) rfl rfl) (m_ (.bool true) rfl (no_ rfl (no_ rfl (no_ rfl (p_ rfl (s_pickT (v := .bool true) rfl rfl) (f_nil (f_keep [0, 5, 6, 7, 37] (s63_j1 _ ih v1 v2 v3 v4 true H))))))))))))
          · refine o_know 28 rfl (dec_false h8) (m_ (.sl x3) rfl (o_bind fun p9 hp9 => p_ rfl (s_callF rfl ok110 (sim110 hp9)) (p_ rfl (s_lss rfl rfl) (p_ rfl (s_pickF (v := .bool (decide (p9.1 < 0))) rfl rfl) (m_ (.bool (decide (p9.1 < 0))) rfl ?_)))))
            refine o_if (fun h10 => ?_) (fun h10 => ?_)
            · exact o_know 33 rfl (dec_true h10) (no_ rfl (no_ rfl (no_ rfl (p_ rfl (s_pickT (v := .bool true) rfl rfl) (f_nil (f_keep [0, 5, 6, 7, 37] (s63_j1 _ ih v1 v2 v3 v4 true p9.2)))))))
            · exact o_know 33 rfl (dec_false h10) (m_ (.sl x3) rfl (o_bind fun p11 hp11 => p_ rfl (s_callF rfl ok94 (sim94 hp11)) (p_ rfl (s_gtr rfl rfl) (p_ rfl (s_pickF (v := .bool (decide (20 < p11.1))) rfl rfl) (f_nil (f_keep [0, 5, 6, 7, 37] (s63_j1 _ ih v1 v2 v3 v4 (decide (20 < p11.1)) p11.2)))))))
    · exact kF 8 h1 rfl (f_exit rfl (q_ (a_ (.bool true) rfl (f_nil (f_ret (.tmp rfl (.nil)) rfl)))))

theorem sim63 {a0 : Sl} {H : Hp} {p : Bool × Hp} (h : r63 a0 H = some p) : CallSim prog 63 [.sl a0] H (.bool p.1) p.2 := by
  refine callSim (fn := f63) (ret := ret63) func63 rfl Tryz.ntmps63 rfl ?_ h
  unfold r63
  exact q_ (a_ (.bool false) rfl (f_nil (f_seq (q_ (m_ (.sl a0) rfl (p_ rfl (s_lenS rfl underlying31 rfl) (m_ (.int .i64 0) rfl (f_nil (f_block (f_loop (f_keep [0, 5, 6, 7] (s63_l0 FUEL a0 a0 (a0.len : Int) 0 H))))))))))))

/- 17 congou/shares.Gap -/
theorem ok17 : FnOk prog 17 := ⟨⟨f17, func17, by kernel_rfl, rfl⟩⟩
theorem s17_l1 (kt0 : Sl → Int → Sl → Int → Int → Hp → Option ((Int × Int) × Hp)) (hkt0 : ∀ (v1 : Sl) (v2 : Int) (v3 : Sl) (v4 v5 : Int) (H : Hp), Fin prog f17 ret17 40 (todoAt (bodyOf f17) [1, 1, 1, 0, 1, 0, 0] []) [(0, .sl v1), (4, .int .i64 v2), (13, .sl v3), (14, .int .i64 v4), (15, .int .i64 v5)] H (kt0 v1 v2 v3 v4 v5 H)) : ∀ (k_ : Nat) (v1 : Sl) (v2 v3 : Int) (v4 : Sl) (v5 v6 : Int) (v7 : Sl) (v8 v9 : Int) (H : Hp), Fin prog f17 ret17 40 (todoAt (bodyOf f17) [1, 1, 1, 0, 1, 0, 0, 1, 1, 0, 0, 1, 1, 0, 0] []) [(0, .sl v1), (4, .int .i64 v2), (6, .int .i64 v3), (13, .sl v4), (14, .int .i64 v5), (15, .int .i64 v6), (22, .sl v7), (23, .int .i64 v8), (24, .int .i64 v9)] H (r17_l1 kt0 k_ v1 v2 v3 v4 v5 v6 v7 v8 v9 H) := by
  intro k_
  induction k_ with
  | zero => intro _ _ _ _ _ _ _ _ _ _; exact f_none
  | succ k_ ih =>
    intro v1 v2 v3 v4 v5 v6 v7 v8 v9 H
    rw [r17_l1]
    refine q_ (p_ rfl (s_lss rfl rfl) (f_nil (f_seq ?_)))
    refine f_if (fun h1 => ?_) (fun h1 => ?_)
    · refine kT 25 h1 rfl (f_skip (f_seq (f_block (q_ (o_ck fun g2 => p_ rfl (s_idx underlying25 ty3 rfl rfl g2) (o_bind fun x3 hx3 => p_ rfl (s_load underlying3 rfl rfl (ldI_eq hx3)) (a_ (.int .i64 x3) rfl (f_nil (f_region (m_ (.int .i64 v2) rfl (m_ (.int .i64 v3) rfl ?_)))))))))))
      refine m_ (.int .i64 x3) rfl (p_ rfl (s_sub rfl rfl) (m_ (.int .i64 x3) rfl (m_ (.int .i64 v3) rfl (p_ rfl (s_sub rfl rfl) (p_ rfl (s_max2 rfl rfl) (p_ rfl (s_add rfl rfl) (a_ (.int .i64 (w64 (v2 + (if (w64 (v3 - x3)) < (w64 (x3 - v3)) then (w64 (x3 - v3)) else (w64 (v3 - x3)))))) rfl (f_nil (f_inBlock (f_region (p_ rfl (s_add rfl rfl) (m_ (.int .i64 (w64 (v9 + 1))) rfl (f_nil (f_inLoop (f_keep [0, 4, 6, 13, 14, 15, 22, 23, 24] ?_)))))))))))))))
      exact ih v1 (w64 (v2 + (if (w64 (v3 - x3)) < (w64 (x3 - v3)) then (w64 (x3 - v3)) else (w64 (v3 - x3))))) v3 v4 v5 v6 v7 v8 (w64 (v9 + 1)) H
    · exact kF 25 h1 rfl (f_exit rfl (f_inBlock (f_region (p_ rfl (s_add rfl rfl) (m_ (.int .i64 (w64 (v6 + 1))) rfl (f_nil (f_inLoop (f_keep [0, 4, 13, 14, 15] (hkt0 v1 v2 v4 v5 (w64 (v6 + 1)) H)))))))))

theorem s17_l0 : ∀ (k_ : Nat) (v1 : Sl) (v2 : Int) (v3 : Sl) (v4 v5 : Int) (H : Hp), Fin prog f17 ret17 40 (todoAt (bodyOf f17) [1, 1, 1, 0, 1, 0, 0] []) [(0, .sl v1), (4, .int .i64 v2), (13, .sl v3), (14, .int .i64 v4), (15, .int .i64 v5)] H (r17_l0 k_ v1 v2 v3 v4 v5 H) := by
  intro k_
  induction k_ with
  | zero => intro _ _ _ _ _ _; exact f_none
  | succ k_ ih =>
    intro v1 v2 v3 v4 v5 H
    rw [r17_l0]
    refine q_ (p_ rfl (s_lss rfl rfl) (f_nil (f_seq ?_)))
    refine f_if (fun h1 => ?_) (fun h1 => ?_)
    · refine kT 16 h1 rfl (f_skip (f_seq (f_block (q_ (m_ (.int .i64 v5) rfl (o_ck fun g2 => p_ rfl (s_idx underlying25 ty3 rfl rfl g2) (o_bind fun x3 hx3 => p_ rfl (s_load underlying3 rfl rfl (ldI_eq hx3)) (a_ (.int .i64 v5) rfl (a_ (.int .i64 x3) rfl (f_nil (f_seq ?_)))))))))))
      exact f_region (m_ (.sl v1) rfl (m_ (.int .i64 v5) rfl (o_ck fun g4 => p_ rfl (s_slice underlying25 ty3 rfl rfl rfl g4.1 g4.2) (p_ rfl (s_lenS rfl underlying25 rfl) (m_ (.int .i64 0) rfl (f_nil (f_block (f_loop (f_keep [0, 4, 6, 13, 14, 15, 22, 23, 24] (s17_l1 _ ih FUEL v1 v2 x3 v3 v4 v5 (v1.cut 1 (0 : Int).toNat (v5 : Int).toNat) ((v1.cut 1 (0 : Int).toNat (v5 : Int).toNat).len : Int) 0 H))))))))))
    · exact kF 16 h1 rfl (f_exit rfl (q_ (m_ (.int .i64 v2) rfl (a_ (.int .i64 v2) rfl (a_ (.int .i64 0) rfl (f_nil (f_ret (.tmp rfl (.tmp rfl (.nil))) rfl)))))))

theorem sim17 {a0 : Sl} {H : Hp} {p : (Int × Int) × Hp} (h : r17 a0 H = some p) : CallSim prog 17 [.sl a0] H (.tup [.int .i64 p.1.1, .int .i64 p.1.2]) p.2 := by
  refine callSim (fn := f17) (ret := ret17) func17 rfl Tryz.ntmps17 rfl ?_ h
  unfold r17
  refine q_ (a_ (.int .i64 0) rfl (a_ (.int .i64 0) rfl (f_nil (f_seq (q_ (m_ (.sl a0) rfl (p_ rfl (s_buildSlice (cs := [.sl a0]) underlying31 ty25 (by decide) (by decide) rfl (by decide) rfl) (o_bind fun p1 hp1 => p_ rfl (s_callF rfl ok63 (sim63 hp1)) (p_ rfl (s_not rfl) (f_nil ?_))))))))))
  refine f_if (fun h2 => ?_) (fun h2 => ?_)
  · refine f_know 12 rfl (bool_notT h2) (f_condF rfl (f_skip (q_ (a_ (.int .i64 0) rfl (f_nil (f_seq (q_ (m_ (.sl a0) rfl (p_ rfl (s_lenS rfl underlying25 rfl) (m_ (.int .i64 0) rfl (f_nil (f_block (f_loop ?_)))))))))))))
    exact f_keep [0, 4, 13, 14, 15] (s17_l0 FUEL a0 0 a0 (a0.len : Int) 0 p1.2)
  · exact f_know 12 rfl (bool_notF h2) (f_condT rfl (q_ (a_ (.int .i64 0) rfl (a_ (.int .i64 2) rfl (f_nil (f_ret (.tmp rfl (.tmp rfl (.nil))) rfl))))))

/- 19 congou/congoutop.words -/
theorem ok19 : FnOk prog 19 := ⟨⟨f19, func19, by kernel_rfl, rfl⟩⟩
theorem s19_l0 {app : App} (happ : AppSim prog app) : ∀ (k_ : Nat) (v1 : ByteArray) (v2 : Sl) (v3 v4 : Int) (H : Hp), Fin prog f19 ret19 19 (todoAt (bodyOf f19) [1, 1, 0, 1, 0, 0] []) [(3, .str v1), (6, .sl v2), (7, .int .i64 v3), (8, .int .i64 v4)] H (r19_l0 app k_ v1 v2 v3 v4 H) := by
  intro k_
  induction k_ with
  | zero => intro _ _ _ _ _; exact f_none
  | succ k_ ih =>
    intro v1 v2 v3 v4 H
    rw [r19_l0]
    refine q_ (p_ rfl (s_lss rfl rfl) (f_nil (f_seq ?_)))
    refine f_if (fun h1 => ?_) (fun h1 => ?_)
    · refine kT 9 h1 rfl (f_skip (f_seq (f_block (q_ (o_ck fun g2 => p_ rfl (s_idx underlying25 ty3 rfl rfl g2) (o_bind fun x3 hx3 => p_ rfl (s_load underlying3 rfl rfl (ldI_eq hx3)) (a_ (.int .i64 x3) rfl (f_nil (f_region (m_ (.str v1) rfl (m_ (.int .i64 x3) rfl ?_)))))))))))
      refine o_bind fun p4 hp4 => o_bind fun x5 hx5 => p_ rfl (s_callA happ rfl hp4) (o_know 14 rfl (asStr_eq hx5) (o_ck fun g6 => p_ rfl (s_addStr rfl rfl g6) (o_ck fun g7 => p_ rfl (s_addStr rfl rfl g7) (a_ (.str (v1 ++ ((ByteArray.mk #[32]) ++ x5))) rfl (f_nil (f_inBlock (f_region (p_ rfl (s_add rfl rfl) (m_ (.int .i64 (w64 (v4 + 1))) rfl (f_nil (f_inLoop ?_)))))))))))
      exact f_keep [3, 6, 7, 8] (ih (v1 ++ ((ByteArray.mk #[32]) ++ x5)) v2 v3 (w64 (v4 + 1)) p4.2)
    · exact kF 9 h1 rfl (f_exit rfl (q_ (m_ (.str v1) rfl (a_ (.str v1) rfl (f_nil (f_ret (.tmp rfl (.nil)) rfl))))))

theorem sim19 {app : App} (happ : AppSim prog app) {a0 : Sl} {H : Hp} {p : ByteArray × Hp} (h : r19 app a0 H = some p) : CallSim prog 19 [.sl a0] H (.str p.1) p.2 := by
  refine callSim (fn := f19) (ret := ret19) func19 rfl Tryz.ntmps19 rfl ?_ h
  unfold r19
  refine q_ (a_ (.str (ByteArray.mk #[])) rfl (n_ (a_ (.str (ByteArray.mk #[])) rfl (f_nil (f_seq (q_ (m_ (.sl a0) rfl (p_ rfl (s_lenS rfl underlying25 rfl) (m_ (.int .i64 0) rfl (f_nil (f_block ?_)))))))))))
  exact f_loop (f_keep [3, 6, 7, 8] (s19_l0 happ FUEL (ByteArray.mk #[]) a0 (a0.len : Int) 0 H))

/- 21 slices.Equal[[]int,int] -/
theorem ok21 : FnOk prog 21 := ⟨⟨f21, func21, by kernel_rfl, rfl⟩⟩
theorem s21_l0 : ∀ (k_ : Nat) (v1 v2 : Sl) (v3 v4 : Int) (H : Hp), Fin prog f21 ret21 26 (todoAt (bodyOf f21) [1, 1, 0, 1, 0, 0] []) [(0, .sl v1), (1, .sl v2), (12, .int .i64 v3), (13, .int .i64 v4)] H (r21_l0 k_ v1 v2 v3 v4 H) := by
  intro k_
  induction k_ with
  | zero => intro _ _ _ _ _; exact f_none
  | succ k_ ih =>
    intro v1 v2 v3 v4 H
    rw [r21_l0]
    refine q_ (p_ rfl (s_lss rfl rfl) (f_nil (f_seq ?_)))
    refine f_if (fun h1 => ?_) (fun h1 => ?_)
    · refine kT 14 h1 rfl (f_skip (f_seq (f_block (q_ (m_ (.int .i64 v4) rfl (a_ (.int .i64 v4) rfl (f_nil (f_seq (f_ck fun g2 => f_bind fun x3 hx3 => f_ck fun g4 => f_bind fun x5 hx5 => f_draw (Φ := fun _ => True) (lim := 1000000) [0, 0, 0, 1, 0, 0, 0, 1, 0] (tm (.sl v1) rfl (tm (.int .i64 v4) rfl (t_ rfl (fun _ => s_idx underlying25 ty3 rfl rfl g2) (tr rfl (s_load underlying3 rfl rfl (ldI_eq hx3)) (tm (.sl v2) rfl (tm (.int .i64 v4) rfl (t_ rfl (fun _ => s_idx underlying25 ty3 rfl rfl g4) (tr rfl (s_load underlying3 rfl rfl (ldI_eq hx5)) (t_ rfl (fun _ => s_neq rfl rfl) (Trc.nil (fun _ => trivial))))))))))) rfl (by decide +kernel) mixed ?_)))))))))
      refine f_if (fun h6 => ?_) (fun h6 => ?_)
      · exact kT 24 h6 rfl (q_ (a_ (.bool false) rfl (f_nil (f_ret (.tmp rfl (.nil)) rfl))))
      · exact kF 24 h6 rfl (f_skip (f_inBlock (f_region (p_ rfl (s_add rfl rfl) (m_ (.int .i64 (w64 (v4 + 1))) rfl (f_nil (f_inLoop (f_keep [0, 1, 12, 13] (ih v1 v2 v3 (w64 (v4 + 1)) H)))))))))
    · exact kF 14 h1 rfl (f_exit rfl (q_ (a_ (.bool true) rfl (f_nil (f_ret (.tmp rfl (.nil)) rfl)))))

theorem sim21 {a0 : Sl} {a1 : Sl} {H : Hp} {p : Bool × Hp} (h : r21 a0 a1 H = some p) : CallSim prog 21 [.sl a0, .sl a1] H (.bool p.1) p.2 := by
  refine callSim (fn := f21) (ret := ret21) func21 rfl Tryz.ntmps21 rfl ?_ h
  unfold r21
  refine q_ (a_ (.bool false) rfl (f_nil (f_seq (q_ (m_ (.sl a0) rfl (p_ rfl (s_lenS rfl underlying25 rfl) (m_ (.sl a1) rfl (p_ rfl (s_lenS rfl underlying25 rfl) (p_ rfl (s_neq rfl rfl) (f_nil ?_))))))))))
  refine f_if (fun h1 => ?_) (fun h1 => ?_)
  · exact kT 10 h1 rfl (q_ (a_ (.bool false) rfl (f_nil (f_ret (.tmp rfl (.nil)) rfl))))
  · exact kF 10 h1 rfl (f_skip (f_seq (q_ (m_ (.sl a0) rfl (p_ rfl (s_lenS rfl underlying25 rfl) (m_ (.int .i64 0) rfl (f_nil (f_block (f_loop (f_keep [0, 1, 12, 13] (s21_l0 FUEL a0 a1 (a0.len : Int) 0 H)))))))))))

/- 119 congou/shares.sums -/
theorem ok119 : FnOk prog 119 := ⟨⟨f119, func119, by kernel_rfl, rfl⟩⟩
theorem s119_l0 : ∀ (k_ : Nat) (v1 : Sl) (v2 : Int) (v3 : Sl) (v4 v5 : Int) (H : Hp), Fin prog f119 ret119 22 (todoAt (bodyOf f119) [1, 1, 1, 0, 1, 0, 0] []) [(3, .sl v1), (4, .int .i64 v2), (7, .sl v3), (8, .int .i64 v4), (9, .int .i64 v5)] H (r119_l0 k_ v1 v2 v3 v4 v5 H) := by
  intro k_
  induction k_ with
  | zero => intro _ _ _ _ _ _; exact f_none
  | succ k_ ih =>
    intro v1 v2 v3 v4 v5 H
    rw [r119_l0]
    refine q_ (p_ rfl (s_lss rfl rfl) (f_nil (f_seq ?_)))
    refine f_if (fun h1 => ?_) (fun h1 => ?_)
    · refine kT 10 h1 rfl (f_skip (f_seq (f_block (q_ (o_ck fun g2 => p_ rfl (s_idx underlying25 ty3 rfl rfl g2) (o_bind fun x3 hx3 => p_ rfl (s_load underlying3 rfl rfl (ldI_eq hx3)) (a_ (.int .i64 x3) rfl (n_ (m_ (.int .i64 v2) rfl ?_)))))))))
      refine m_ (.int .i64 x3) rfl (p_ rfl (s_add rfl rfl) (a_ (.int .i64 (w64 (v2 + x3))) rfl (f_nil (f_region (m_ (.sl v1) rfl (m_ (.int .i64 (w64 (v2 + x3))) rfl (p_ rfl (s_buildSlice (cs := [.int .i64 (w64 (v2 + x3))]) underlying25 ty3 (by decide) (by decide) rfl (by decide) rfl) (o_bind fun x4 hx4 => p_ rfl (s_ap rfl rfl underlying25 underlying25 ty3 rfl rfl rfl rfl rfl rfl rfl hx4) (a_ (.sl x4.1) rfl (f_nil (f_inBlock (f_region (p_ rfl (s_add rfl rfl) (m_ (.int .i64 (w64 (v5 + 1))) rfl ?_))))))))))))))
      exact f_nil (f_inLoop (f_keep [3, 4, 7, 8, 9] (ih x4.1 (w64 (v2 + x3)) v3 v4 (w64 (v5 + 1)) x4.2)))
    · exact kF 10 h1 rfl (f_exit rfl (q_ (m_ (.sl v1) rfl (a_ (.sl v1) rfl (f_nil (f_ret (.tmp rfl (.nil)) rfl))))))

theorem sim119 {a0 : Sl} {H : Hp} {p : Sl × Hp} (h : r119 a0 H = some p) : CallSim prog 119 [.sl a0] H (.sl p.1) p.2 := by
  refine callSim (fn := f119) (ret := ret119) func119 rfl Tryz.ntmps119 rfl ?_ h
  unfold r119
  refine q_ (a_ (.sl ⟨true, 0, 0, 0, 0, 0⟩) rfl (n_ (a_ (.sl ⟨true, 0, 0, 0, 0, 0⟩) rfl (n_ (a_ (.int .i64 0) rfl (f_nil (f_seq (q_ (m_ (.sl a0) rfl ?_)))))))))
  exact p_ rfl (s_lenS rfl underlying25 rfl) (m_ (.int .i64 0) rfl (f_nil (f_block (f_loop (f_keep [3, 4, 7, 8, 9] (s119_l0 FUEL ⟨true, 0, 0, 0, 0, 0⟩ 0 a0 (a0.len : Int) 0 H))))))

end Go.Lt.P10
