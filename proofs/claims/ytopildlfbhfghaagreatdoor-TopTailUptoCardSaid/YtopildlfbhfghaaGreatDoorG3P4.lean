/- PRINTED BY A PROGRAM OF OURS: what each function that 'TopTail' reaches computes on the abstract heap, and that the translated code does just that. Nothing is asked of the input. -/
import Derived.Test.YtopildlfbhfghaaGreatDoorG3P3
set_option linter.unusedVariables false
set_option linter.unusedSimpArgs false
set_option maxRecDepth 100000
set_option maxHeartbeats 4000000
namespace Go.Lt.P10
open Go Go.Lt Go.Proofs Go.Proofs.Tryz
/- 13 congou/counts.Tail -/
theorem ok13 : FnOk prog 13 := ⟨⟨f13, func13, by kernel_rfl, rfl⟩⟩
theorem sim13 {app : App} (happ : AppSim prog app) {a0 : Sl} {H : Hp} {p : (Int × Int × Int) × Hp} (h : r13 app a0 H = some p) : CallSim prog 13 [.sl a0] H (.tup [.agg [.int .i64 p.1.1, .int .i64 p.1.2.1], .int .i64 p.1.2.2]) p.2 := by
 refine callSim (fn := f13) (ret := ret13) func13 rfl Tryz.ntmps13 rfl ?_ h
 unfold r13
 refine q_ (p_ rfl (s_alloc (zs := [.int .i64 0, .int .i64 0]) ty33 rfl rfl) (a_ (.int .i64 0) rfl (o_hp fun H1 hH1 => f_nil (f_seq (q_ (m_ (.sl a0) rfl (o_bind fun p2 hp2 => p_ rfl (s_callF rfl ok54 (sim54 hp2)) (p_ rfl (s_not rfl) (f_nil ?_)))))))))
 refine f_if (fun h3 => ?_) (fun h3 => ?_)
 ·refine f_know 10 rfl (bool_notT h3) (f_condF rfl (f_skip (q_ (m_ (.sl a0) rfl (o_bind fun p4 hp4 => p_ rfl (s_callF rfl ok55 (sim55 hp4)) (p_ rfl (s_alloc (zs := [.int .i64 0]) ty3 rfl rfl) (o_bind fun H5 hH5 => p_ rfl (s_store (s := 1) ty3 rfl rfl rfl hH5) (n_ (p_ rfl (s_alloc (zs := [.int .i64 0]) ty3 rfl rfl) (o_bind fun H6 hH6 => ?_))))))))))
  refine p_ rfl (s_store (s := 1) ty3 rfl rfl rfl hH6) (f_nil (f_seq (q_ (m_ (.sl a0) rfl (o_bind fun p7 hp7 => p_ rfl (s_callF rfl ok56 (sim56 hp7)) (p_ rfl (s_makeFunc rfl rfl) (f_nil (f_block (f_bind fun p8 hp8 => f_bind fun q9 hq9 => f_rangeX happ rfl rfl (lookup_restrict _ [4, 5]) rfl hp8 hq9 ?_)))))))))
  refine f_if (fun h10 => ?_) (fun h10 => ?_)
  ·exact f_jmp0 h10 (f_inBlock (f_seq (f_bind fun x11 hx11 => f_bind fun p12 hp12 => f_bind fun p13 hp13 => f_bind fun p14 hp14 => f_bind fun H15 hH15 => f_ck fun g16 => f_ck fun g17 => f_draw (Φ := fun H_ => H_.ld H5.n 0 = some (.int .i64 x11)) (lim := 5) [0, 0, 2, 0, 2, 2, 2, 0] (Trc.pure rfl rfl rfl (.inr ⟨by decide +kernel, fun _ hp_ => s_load underlying3 rfl rfl hp_⟩) (tm (.sl a0) rfl (Trc.eff rfl rfl rfl (fun _ => ldI_eq hx11) (s_callF rfl ok56 (sim56 hp12)) (t_ rfl (fun _ => s_field (v := .sl p12.1.2) underlying105 rfl underlying25 ty25 rfl rfl) (Trc.eff rfl rfl rfl (fun _ => ldI_eq g16) (s_callF rfl ok59 (sim59 hp13)) (Trc.eff rfl rfl rfl (fun _ => ldI_eq g17) (s_callF rfl ok58 (sim58 hp14)) (Trc.eff rfl rfl rfl (fun h_ => absurd h_ (by decide +kernel)) (s_stores ty33 rfl rfl rfl rfl hH15 (Nat.le_of_eq (sts_mono hH15).symm)) (t_ rfl (fun _ => s_as (v := .int .i64 0) rfl) (Trc.nil (fun h_ => absurd h_ (by decide +kernel))))))))))) rfl (by decide +kernel) mixed (f_bind fun x18 hx18 => f_bind fun x19 hx19 => f_ck fun g20 => f_retD (.cells underlying33 rfl sz33 rfl (lds_cons (ldI_eq hx18) (lds_cons (ldI_eq hx19) (lds_nil))) (.tmp rfl (.nil))) rfl (dfrs_of g20)))))
  ·exact f_none
 ·exact f_know 10 rfl (bool_notF h3) (f_condT rfl (q_ (p_ rfl (s_build (cs := [.int .i64 0, .int .i64 0]) underlying33 ty33 rfl pl33 rfl) (o_bind fun H21 hH21 => p_ rfl (s_stores ty33 rfl rfl rfl rfl hH21 (Nat.le_of_eq (sts_mono hH21).symm)) (a_ (.int .i64 2) rfl (f_nil (f_bind fun x22 hx22 => f_bind fun x23 hx23 => f_ret (.cells underlying33 rfl sz33 rfl (lds_cons (ldI_eq hx22) (lds_cons (ldI_eq hx23) (lds_nil))) (.tmp rfl (.nil))) rfl)))))))

theorem sim13q0 {app : App} (happ : AppSim prog app) {l_ : Nat} {v1 : Nat} {v2 : Nat} {y0 : Sl} {H : Hp} : FinG prog PostR ⟨32, [], some l_⟩ [.code (siteTab 0).2.1, .beginRound, .code (siteTab 0).2.2] (zipF [17] [.sl y0] [(4, .ptr v1 0), (5, .ptr v2 0)]) H (r13q0 app l_ v1 v2 y0 H) := by
 show FinG prog PostR ⟨32, [], some l_⟩ (todoAt (bodyOf f13) [1, 1, 1, 1, 0, 1, 0, 0] []) [(17, .sl y0), (4, .ptr v1 0), (5, .ptr v2 0)] H _
 unfold r13q0
 refine f_region (a_ (.sl y0) rfl (f_nil (f_bind fun H1 hH1 => f_beginX rfl hH1 (f_block (q_ (m_ (.sl y0) rfl (o_bind fun p2 hp2 => p_ rfl (s_callF rfl ok55 (sim55 hp2)) (a_ (.int .i64 p2.1) rfl (n_ (m_ (.int .i64 p2.1) rfl ?_))))))))))
 refine o_bind fun x3 hx3 => p_ rfl (s_load underlying3 rfl rfl (ldI_eq hx3)) (p_ rfl (s_leq rfl rfl) (f_nil ?_))
 refine f_if (fun h4 => ?_) (fun h4 => ?_)
 ·exact kT 22 h4 rfl (f_region (o_bind fun x5 hx5 => p_ rfl (s_load underlying3 rfl rfl (ldI_eq hx5)) (m_ (.int .i64 p2.1) rfl (p_ rfl (s_add rfl rfl) (o_bind fun H6 hH6 => p_ rfl (s_store (s := 1) ty3 rfl rfl rfl hH6) (f_nil (f_inBlock (f_rend))))))))
 ·exact kF 22 h4 rfl (f_skip (f_inBlock (f_rend)))

/- 62 (*congou/chest.state).ask -/
theorem ok62 : FnOk prog 62 := ⟨⟨f62, func62, by kernel_rfl, rfl⟩⟩
theorem s62_j0 {app : App} (happ : AppSim prog app) (v1 v2 v3 : ByteArray) (v4 : AV) (H : Hp) : Fin prog f62 ret62 74 (todoAt (bodyOf f62) [1, 1, 1, 1] []) [(1, .str v1), (6, .str v2), (9, .str v3), (10, v4)] H (r62_j0 app v1 v2 v3 v4 H) := by
 unfold r62_j0
 refine q_ (m_ (.str v3) rfl (m_ (.str v1) rfl (o_bind fun p1 hp1 => p_ rfl (s_callF rfl ok108 (sim108 happ hp1)) (m_ (.tup [.agg [.sl p1.1.1, .sl p1.1.2.1], .bool p1.1.2.2]) rfl (p_ rfl (s_extract (r := .agg [.sl p1.1.1, .sl p1.1.2.1]) rfl rfl) (p_ rfl (s_extract (r := .bool p1.1.2.2) rfl rfl) (p_ rfl (s_alloc (zs := [.sl ⟨true, 0, 0, 0, 0, 0⟩, .sl ⟨true, 0, 0, 0, 0, 0⟩]) ty167 rfl rfl) (o_bind fun H2 hH2 => p_ rfl (s_stores ty167 rfl rfl rfl rfl hH2 (Nat.le_of_eq (sts_mono hH2).symm)) (a_ (.bool p1.1.2.2) rfl (f_nil (f_seq (f_seq ?_))))))))))))
 refine f_region (m_ (.bool p1.1.2.2) rfl (p_ rfl (s_not rfl) (f_nil ?_)))
 refine f_if (fun h3 => ?_) (fun h3 => ?_)
 ·refine f_know 59 rfl (bool_notT h3) (f_condF rfl (f_skip (q_ (m_ v4 rfl (o_bind fun x4 hx4 => o_bind fun x5 hx5 => p_ rfl (s_loads underlying167 rfl ty167 rfl (lds_cons (ldSl_eq hx4) (lds_cons (ldSl_eq hx5) (lds_nil)))) (o_bind fun p6 hp6 => o_bind fun x7 hx7 => o_ck fun g8 => o_bind fun x9 hx9 => o_bind fun x10 hx10 => o_bind fun x11 hx11 => o_bind fun x12 hx12 => ?_))))))
  refine p_ rfl (s_callv happ rfl rfl hp6) (o_know 63 rfl (tupOf2 hx7 g8 (gete hx9 (asSl_eq hx10)) (gete hx11 (asI_eq hx12))) (m_ (.tup [.sl x10, .int .i64 x12]) rfl (p_ rfl (s_extract (r := .sl x10) rfl rfl) (p_ rfl (s_extract (r := .int .i64 x12) rfl rfl) (a_ (.sl x10) rfl (a_ (.int .i64 x12) rfl (f_nil (f_seq (q_ (m_ (.int .i64 x12) rfl (p_ rfl (s_neq rfl rfl) (f_nil ?_))))))))))))
  refine f_if (fun h13 => ?_) (fun h13 => ?_)
  ·exact kT 67 h13 rfl (q_ (m_ (.int .i64 x12) rfl (a_ (.str (ByteArray.mk #[])) rfl (a_ (.int .i64 x12) rfl (f_nil (f_ret (.tmp rfl (.tmp rfl (.nil))) rfl))))))
  ·refine kF 67 h13 rfl (f_skip (q_ (m_ (.str v2) rfl (p_ rfl (s_buildSlice (cs := [.str v2]) underlying22 ty9 (by decide) (by decide) rfl (by decide) rfl) (m_ (.sl x10) rfl (o_bind fun x14 hx14 => o_ck fun g15 => o_bind fun x16 hx16 => p_ rfl (s_append rfl rfl underlying22 underlying22 ty9 (by decide) rfl (by decide) rfl rfl hx14 g15 hx16) (o_bind fun p17 hp17 => o_bind fun x18 hx18 => p_ rfl (s_callA happ rfl hp17) (o_know 73 rfl (asStr_eq hx18) ?_))))))))
   exact a_ (.str x18) rfl (a_ (.int .i64 0) rfl (f_nil (f_ret (.tmp rfl (.tmp rfl (.nil))) rfl)))
 ·exact f_know 59 rfl (bool_notF h3) (f_condT rfl (q_ (a_ (.str (ByteArray.mk #[])) rfl (a_ (.int .i64 3) rfl (f_nil (f_ret (.tmp rfl (.tmp rfl (.nil))) rfl))))))

theorem sim62 {app : App} (happ : AppSim prog app) {a0b : Nat} {a0o : Nat} {a1 : ByteArray} {H : Hp} {p : (ByteArray × Int) × Hp} (h : r62 app a0b a0o a1 H = some p) : CallSim prog 62 [.ptr a0b a0o, .str a1] H (.tup [.str p.1.1, .int .i64 p.1.2]) p.2 := by
 refine callSim (fn := f62) (ret := ret62) func62 rfl Tryz.ntmps62 rfl ?_ h
 unfold r62
 refine q_ (a_ (.str (ByteArray.mk #[])) rfl (a_ (.int .i64 0) rfl (n_ (m_ (.str a1) rfl (o_bind fun p1 hp1 => p_ rfl (s_callF rfl ok97 (sim97 hp1)) (m_ (.tup [.str p1.1.1, .str p1.1.2.1, .bool p1.1.2.2]) rfl (p_ rfl (s_extract (r := .str p1.1.1) rfl rfl) (p_ rfl (s_extract (r := .str p1.1.2.1) rfl rfl) (p_ rfl (s_extract (r := .bool p1.1.2.2) rfl rfl) (a_ (.str p1.1.1) rfl (a_ (.str p1.1.2.1) rfl ?_)))))))))))
 refine a_ (.bool p1.1.2.2) rfl (n_ (m_ (.ptr a0b a0o) rfl (p_ rfl (s_makeFunc rfl rfl) (a_ (.str (ByteArray.mk #[])) rfl (a_ (.fn 98 [.ptr a0b a0o] []) rfl (f_nil (f_seq (q_ (m_ (.str p1.1.1) rfl (f_nil (f_block (f_seq ?_))))))))))))
 refine f_region (p_ rfl (s_eqStr rfl rfl) (a_ (.bool (strEq p1.1.1 (ByteArray.mk #[103, 97, 112]))) rfl (f_nil ?_)))
 refine f_if (fun h2 => ?_) (fun h2 => ?_)
 ·exact bT 24 h2 rfl (f_skip (f_inBlock (f_keep [1, 6, 9, 10] (s62_j0 happ a1 p1.1.1 (ByteArray.mk #[]) (.fn 98 [.ptr a0b a0o] []) p1.2))))
 ·refine bF 24 h2 rfl (q_ (p_ rfl (s_eqStr rfl rfl) (a_ (.bool (strEq p1.1.1 (ByteArray.mk #[104, 101, 97, 118, 121]))) rfl (f_nil ?_))))
  refine f_if (fun h3 => ?_) (fun h3 => ?_)
  ·exact bT 26 h3 rfl (f_region (m_ (.ptr a0b a0o) rfl (p_ rfl (s_makeFunc rfl rfl) (a_ (.str (ByteArray.mk #[100])) rfl (a_ (.fn 99 [.ptr a0b a0o] []) rfl (f_nil (f_inBlock (f_keep [1, 6, 9, 10] (s62_j0 happ a1 p1.1.1 (ByteArray.mk #[100]) (.fn 99 [.ptr a0b a0o] []) p1.2)))))))))
  ·refine bF 26 h3 rfl (q_ (p_ rfl (s_eqStr rfl rfl) (a_ (.bool (strEq p1.1.1 (ByteArray.mk #[111, 102, 116, 101, 110]))) rfl (f_nil ?_))))
   refine f_if (fun h4 => ?_) (fun h4 => ?_)
   ·exact bT 30 h4 rfl (f_region (m_ (.ptr a0b a0o) rfl (p_ rfl (s_makeFunc rfl rfl) (a_ (.str (ByteArray.mk #[110])) rfl (a_ (.fn 100 [.ptr a0b a0o] []) rfl (f_nil (f_inBlock (f_keep [1, 6, 9, 10] (s62_j0 happ a1 p1.1.1 (ByteArray.mk #[110]) (.fn 100 [.ptr a0b a0o] []) p1.2)))))))))
   ·refine bF 30 h4 rfl (q_ (p_ rfl (s_eqStr rfl rfl) (a_ (.bool (strEq p1.1.1 (ByteArray.mk #[116, 97, 105, 108]))) rfl (f_nil ?_))))
    refine f_if (fun h5 => ?_) (fun h5 => ?_)
    ·exact bT 34 h5 rfl (f_region (m_ (.ptr a0b a0o) rfl (p_ rfl (s_makeFunc rfl rfl) (a_ (.fn 101 [.ptr a0b a0o] []) rfl (f_nil (f_inBlock (f_keep [1, 6, 9, 10] (s62_j0 happ a1 p1.1.1 (ByteArray.mk #[]) (.fn 101 [.ptr a0b a0o] []) p1.2))))))))
    ·refine bF 34 h5 rfl (q_ (p_ rfl (s_eqStr rfl rfl) (a_ (.bool (strEq p1.1.1 (ByteArray.mk #[102, 97, 105, 114]))) rfl (f_nil ?_))))
     refine f_if (fun h6 => ?_) (fun h6 => ?_)
     ·exact bT 38 h6 rfl (f_region (m_ (.ptr a0b a0o) rfl (p_ rfl (s_makeFunc rfl rfl) (a_ (.str (ByteArray.mk #[100, 100])) rfl (a_ (.fn 102 [.ptr a0b a0o] []) rfl (f_nil (f_inBlock (f_keep [1, 6, 9, 10] (s62_j0 happ a1 p1.1.1 (ByteArray.mk #[100, 100]) (.fn 102 [.ptr a0b a0o] []) p1.2)))))))))
     ·refine bF 38 h6 rfl (q_ (p_ rfl (s_eqStr rfl rfl) (a_ (.bool (strEq p1.1.1 (ByteArray.mk #[114, 111, 117, 110, 100]))) rfl (f_nil ?_))))
      refine f_if (fun h7 => ?_) (fun h7 => ?_)
      ·exact bT 42 h7 rfl (f_region (a_ (.str (ByteArray.mk #[100])) rfl (a_ (.fn 103 [] []) rfl (f_nil (f_inBlock (f_keep [1, 6, 9, 10] (s62_j0 happ a1 p1.1.1 (ByteArray.mk #[100]) (.fn 103 [] []) p1.2)))))))
      ·refine bF 42 h7 rfl (q_ (p_ rfl (s_eqStr rfl rfl) (a_ (.bool (strEq p1.1.1 (ByteArray.mk #[99, 117, 114, 118, 101]))) rfl (f_nil ?_))))
       refine f_if (fun h8 => ?_) (fun h8 => ?_)
       ·exact bT 44 h8 rfl (f_region (a_ (.str (ByteArray.mk #[100])) rfl (a_ (.fn 104 [] []) rfl (f_nil (f_inBlock (f_keep [1, 6, 9, 10] (s62_j0 happ a1 p1.1.1 (ByteArray.mk #[100]) (.fn 104 [] []) p1.2)))))))
       ·refine bF 44 h8 rfl (q_ (p_ rfl (s_eqStr rfl rfl) (a_ (.bool (strEq p1.1.1 (ByteArray.mk #[115, 113, 117, 97, 114, 101]))) rfl (f_nil ?_))))
        refine f_if (fun h9 => ?_) (fun h9 => ?_)
        ·exact bT 46 h9 rfl (f_region (a_ (.str (ByteArray.mk #[100, 100, 100, 100])) rfl (a_ (.fn 105 [] []) rfl (f_nil (f_inBlock (f_keep [1, 6, 9, 10] (s62_j0 happ a1 p1.1.1 (ByteArray.mk #[100, 100, 100, 100]) (.fn 105 [] []) p1.2)))))))
        ·refine bF 46 h9 rfl (q_ (p_ rfl (s_eqStr rfl rfl) (a_ (.bool (strEq p1.1.1 (ByteArray.mk #[114, 111, 119]))) rfl (f_nil ?_))))
         refine f_if (fun h10 => ?_) (fun h10 => ?_)
         ·exact bT 48 h10 rfl (f_region (a_ (.str (ByteArray.mk #[100, 100])) rfl (a_ (.fn 106 [] []) rfl (f_nil (f_inBlock (f_keep [1, 6, 9, 10] (s62_j0 happ a1 p1.1.1 (ByteArray.mk #[100, 100]) (.fn 106 [] []) p1.2)))))))
         ·refine bF 48 h10 rfl (q_ (p_ rfl (s_eqStr rfl rfl) (a_ (.bool (strEq p1.1.1 (ByteArray.mk #[108, 101, 97, 115, 116]))) rfl (f_nil ?_))))
          refine f_if (fun h11 => ?_) (fun h11 => ?_)
          ·exact bT 50 h11 rfl (f_region (a_ (.str (ByteArray.mk #[100])) rfl (a_ (.fn 107 [] []) rfl (f_nil (f_inBlock (f_keep [1, 6, 9, 10] (s62_j0 happ a1 p1.1.1 (ByteArray.mk #[100]) (.fn 107 [] []) p1.2)))))))
          ·exact bF 50 h11 rfl (q_ (a_ (.str (ByteArray.mk #[])) rfl (a_ (.int .i64 3) rfl (f_nil (f_ret (.tmp rfl (.tmp rfl (.nil))) rfl)))))

/- 14 (*congou/chest.Chest).Ask -/
theorem ok14 : FnOk prog 14 := ⟨⟨f14, func14, by kernel_rfl, rfl⟩⟩
theorem sim14 {app : App} (happ : AppSim prog app) {a0b : Nat} {a0o : Nat} {a1 : ByteArray} {H : Hp} {p : (ByteArray × Int) × Hp} (h : r14 app a0b a0o a1 H = some p) : CallSim prog 14 [.ptr a0b a0o, .str a1] H (.tup [.str p.1.1, .int .i64 p.1.2]) p.2 := by
 refine callSim (fn := f14) (ret := ret14) func14 rfl Tryz.ntmps14 rfl ?_ h
 unfold r14
 refine q_ (a_ (.str (ByteArray.mk #[])) rfl (a_ (.int .i64 0) rfl (f_nil (f_seq (q_ (m_ (.ptr a0b a0o) rfl (o_bind fun p1 hp1 => p_ rfl (s_callF rfl ok60 (sim60 hp1)) (f_nil ?_))))))))
 refine f_if (fun h2 => ?_) (fun h2 => ?_)
 ·exact bT 7 h2 rfl (q_ (a_ (.str (ByteArray.mk #[])) rfl (a_ (.int .i64 1) rfl (f_nil (f_ret (.tmp rfl (.tmp rfl (.nil))) rfl)))))
 ·refine bF 7 h2 rfl (f_skip (q_ (m_ (.ptr a0b a0o) rfl (o_bind fun p3 hp3 => p_ rfl (s_callF rfl ok61 (sim61 hp3)) (m_ (.str a1) rfl (o_bind fun p4 hp4 => p_ rfl (s_callF rfl ok62 (sim62 happ hp4)) (p_ rfl (s_extract (r := .str p4.1.1) rfl rfl) (p_ rfl (s_extract (r := .int .i64 p4.1.2) rfl rfl) (a_ (.str p4.1.1) rfl (a_ (.int .i64 p4.1.2) rfl (f_nil ?_)))))))))))
  exact f_ret (.tmp rfl (.tmp rfl (.nil))) rfl

/- 15 congou/congoutop.quotients -/
theorem ok15 : FnOk prog 15 := ⟨⟨f15, func15, by kernel_rfl, rfl⟩⟩
theorem s15_l0 {app : App} (happ : AppSim prog app) : ∀ (k_ : Nat) (v1 : ByteArray) (v2 : Sl) (v3 v4 : Int) (H : Hp), Fin prog f15 ret15 25 (todoAt (bodyOf f15) [1, 1, 0, 1, 0, 0] []) [(3, .str v1), (6, .sl v2), (7, .int .i64 v3), (8, .int .i64 v4)] H (r15_l0 app k_ v1 v2 v3 v4 H) := by
 intro k_
 induction k_ with
 | zero => intro _ _ _ _ _; exact f_none
 | succ k_ ih =>
  intro v1 v2 v3 v4 H
  rw [r15_l0]
  refine q_ (p_ rfl (s_lss rfl rfl) (f_nil (f_seq ?_)))
  refine f_if (fun h1 => ?_) (fun h1 => ?_)
  ·refine kT 9 h1 rfl (f_skip (f_seq (f_block (q_ (o_ck fun g2 => p_ rfl (s_idx underlying111 ty33 rfl rfl g2) (o_bind fun x3 hx3 => o_bind fun x4 hx4 => p_ rfl (s_loads underlying33 rfl ty33 rfl (lds_cons (ldI_eq hx3) (lds_cons (ldI_eq hx4) (lds_nil)))) (p_ rfl (s_alloc (zs := [.int .i64 0, .int .i64 0]) ty33 rfl rfl) (o_bind fun H5 hH5 => p_ rfl (s_stores ty33 rfl rfl rfl rfl hH5 (Nat.le_of_eq (sts_mono hH5).symm)) (f_nil ?_)))))))))
   refine f_bind fun x6 hx6 => f_bind fun p7 hp7 => f_bind fun x8 hx8 => f_ck fun g9 => f_ck fun g10 => f_bind fun x11 hx11 => f_bind fun p12 hp12 => f_bind fun x13 hx13 => f_ck fun g14 => f_ck fun g15 => f_ck fun g16 => f_draw (Φ := fun H_ => H_.ld H.n (0 + 1) = some (.int .i64 x11)) (lim := 8) [0, 0, 1, 2, 0, 0, 0, 0, 2, 0, 0, 0] (tm (.str v1) rfl (t_ rfl (fun _ => s_fieldAddr underlying33 rfl ty3 rfl) (tr rfl (s_load underlying3 rfl rfl (ldI_eq hx6)) (Trc.eff rfl rfl rfl (fun _ => ldI_eq g16) (s_callA happ rfl hp7) (Trc.know 15 rfl (asStr_eq hx8) (t_ rfl (fun _ => s_addStr rfl rfl g9) (t_ rfl (fun _ => s_addStr rfl rfl g10) (t_ rfl (fun _ => s_fieldAddr underlying33 rfl ty3 rfl) (Trc.pure rfl rfl rfl (.inr ⟨by decide +kernel, fun _ hp_ => s_load underlying3 rfl rfl hp_⟩) (Trc.eff rfl rfl rfl (fun _ => ldI_eq hx11) (s_callA happ rfl hp12) (Trc.know 20 rfl (asStr_eq hx13) (t_ rfl (fun _ => s_addStr rfl rfl g14) (t_ rfl (fun _ => s_addStr rfl rfl g15) (t_ rfl (fun _ => s_as (v := .str (v1 ++ ((((ByteArray.mk #[32]) ++ x8) ++ (ByteArray.mk #[47])) ++ x13))) rfl) (Trc.nil (fun h_ => absurd h_ (by decide +kernel))))))))))))))))) rfl (by decide +kernel) mixed (f_inBlock (f_region (p_ rfl (s_add rfl rfl) (m_ (.int .i64 (w64 (v4 + 1))) rfl ?_))))
   exact f_nil (f_inLoop (f_keep [3, 6, 7, 8] (ih (v1 ++ ((((ByteArray.mk #[32]) ++ x8) ++ (ByteArray.mk #[47])) ++ x13)) v2 v3 (w64 (v4 + 1)) p12.2)))
  ·exact kF 9 h1 rfl (f_exit rfl (q_ (m_ (.str v1) rfl (a_ (.str v1) rfl (f_nil (f_ret (.tmp rfl (.nil)) rfl))))))

theorem sim15 {app : App} (happ : AppSim prog app) {a0 : Sl} {H : Hp} {p : ByteArray × Hp} (h : r15 app a0 H = some p) : CallSim prog 15 [.sl a0] H (.str p.1) p.2 := by
 refine callSim (fn := f15) (ret := ret15) func15 rfl Tryz.ntmps15 rfl ?_ h
 unfold r15
 refine q_ (a_ (.str (ByteArray.mk #[])) rfl (n_ (a_ (.str (ByteArray.mk #[])) rfl (f_nil (f_seq (q_ (m_ (.sl a0) rfl (p_ rfl (s_lenS rfl underlying111 rfl) (m_ (.int .i64 0) rfl (f_nil (f_block ?_)))))))))))
 exact f_loop (f_keep [3, 6, 7, 8] (s15_l0 happ FUEL (ByteArray.mk #[]) a0 (a0.len : Int) 0 H))

/- 16 congou/congoutop.takes -/
theorem ok16 : FnOk prog 16 := ⟨⟨f16, func16, by kernel_rfl, rfl⟩⟩
theorem sim16 {app : App} (happ : AppSim prog app) {H : Hp} {p : Bool × Hp} (h : r16 app H = some p) : CallSim prog 16 [] H (.bool p.1) p.2 := by
 refine callSim (fn := f16) (ret := ret16) func16 rfl Tryz.ntmps16 rfl ?_ h
 unfold r16
 refine q_ (a_ (.bool false) rfl (n_ (o_bind fun p1 hp1 => p_ rfl (s_callF rfl ok47 (sim47 hp1)) (a_ (.ptr p1.1.1 p1.1.2) rfl (n_ (m_ (.ptr p1.1.1 p1.1.2) rfl (o_bind fun p2 hp2 => p_ rfl (s_callF rfl ok20 (sim20 happ hp2)) (m_ (.tup [.str p2.1.1, .int .i64 p2.1.2]) rfl ?_))))))))
 refine p_ rfl (s_extract (r := .str p2.1.1) rfl rfl) (p_ rfl (s_extract (r := .int .i64 p2.1.2) rfl rfl) (a_ (.str p2.1.1) rfl (a_ (.int .i64 p2.1.2) rfl (n_ (m_ (.ptr p1.1.1 p1.1.2) rfl (o_bind fun p3 hp3 => p_ rfl (s_callF rfl ok14 (sim14 happ hp3)) (m_ (.tup [.str p3.1.1, .int .i64 p3.1.2]) rfl (p_ rfl (s_extract (r := .str p3.1.1) rfl rfl) (p_ rfl (s_extract (r := .int .i64 p3.1.2) rfl rfl) (a_ (.str p3.1.1) rfl (a_ (.int .i64 p3.1.2) rfl (f_nil ?_))))))))))))
 refine q_ (m_ (.int .i64 p2.1.2) rfl (p_ rfl (s_eql rfl rfl) (m_ (.bool (decide (p2.1.2 = 0))) rfl ?_)))
 refine o_if (fun h4 => ?_) (fun h4 => ?_)
 ·refine o_know 19 rfl (dec_true h4) (m_ (.int .i64 p3.1.2) rfl (p_ rfl (s_eql rfl rfl) (p_ rfl (s_pickT (v := .bool (decide (p3.1.2 = 0))) rfl rfl) (m_ (.bool (decide (p3.1.2 = 0))) rfl ?_))))
  refine o_if (fun h5 => ?_) (fun h5 => ?_)
  ·refine o_know 23 rfl (dec_true h5) (m_ (.str p2.1.1) rfl (p_ rfl (s_eqStr rfl rfl) (p_ rfl (s_pickT (v := .bool (strEq p2.1.1 (ByteArray.mk #[108, 101, 97, 102]))) rfl rfl) (m_ (.bool (strEq p2.1.1 (ByteArray.mk #[108, 101, 97, 102]))) rfl ?_))))
   refine o_if (fun h6 => ?_) (fun h6 => ?_)
   ·exact o_know 27 rfl (bool_T h6) (m_ (.str p3.1.1) rfl (p_ rfl (s_eqStr rfl rfl) (p_ rfl (s_pickT (v := .bool (strEq p3.1.1 (ByteArray.mk #[103, 97, 112, 32, 48]))) rfl rfl) (a_ (.bool (strEq p3.1.1 (ByteArray.mk #[103, 97, 112, 32, 48]))) rfl (f_nil (f_ret (.tmp rfl (.nil)) rfl))))))
   ·exact o_know 27 rfl (bool_F h6) (no_ rfl (no_ rfl (p_ rfl (s_pickF (v := .bool false) rfl rfl) (a_ (.bool false) rfl (f_nil (f_ret (.tmp rfl (.nil)) rfl))))))
  ·exact o_know 23 rfl (dec_false h5) (no_ rfl (no_ rfl (p_ rfl (s_pickF (v := .bool false) rfl rfl) (m_ (.bool false) rfl (no_ rfl (no_ rfl (p_ rfl (s_pickF (v := .bool false) rfl rfl) (a_ (.bool false) rfl (f_nil (f_ret (.tmp rfl (.nil)) rfl))))))))))
 ·exact o_know 19 rfl (dec_false h4) (no_ rfl (no_ rfl (p_ rfl (s_pickF (v := .bool false) rfl rfl) (m_ (.bool false) rfl (no_ rfl (no_ rfl (p_ rfl (s_pickF (v := .bool false) rfl rfl) (m_ (.bool false) rfl (no_ rfl (no_ rfl (p_ rfl (s_pickF (v := .bool false) rfl rfl) (a_ (.bool false) rfl (f_nil (f_ret (.tmp rfl (.nil)) rfl))))))))))))))

/- 3 congou/congoutop.TopTail -/
theorem ok3 : FnOk prog 3 := ⟨⟨f3, func3, by kernel_rfl, rfl⟩⟩
theorem sim3 {app : App} (happ : AppSim prog app) {a0 : Sl} {H : Hp} {p : Bool × Hp} (h : r3 app a0 H = some p) : CallSim prog 3 [.sl a0] H (.bool p.1) p.2 := by
 refine callSim (fn := f3) (ret := ret3) func3 rfl Tryz.ntmps3 rfl ?_ h
 unfold r3
 refine q_ (a_ (.bool false) rfl (n_ (m_ (.sl a0) rfl (o_bind fun p1 hp1 => p_ rfl (s_callF rfl ok10 (sim10 happ hp1)) (a_ (.ptr p1.1.1 p1.1.2) rfl (n_ (m_ (.ptr p1.1.1 p1.1.2) rfl (o_bind fun p2 hp2 => p_ rfl (s_callF rfl ok11 (sim11 happ hp2)) ?_))))))))
 refine m_ (.tup [.sl p2.1.1, .sl p2.1.2.1, .sl p2.1.2.2.1, .agg [.int .i64 p2.1.2.2.2.1, .int .i64 p2.1.2.2.2.2.1, .int .i64 p2.1.2.2.2.2.2.1, .int .i64 p2.1.2.2.2.2.2.2.1], .sl p2.1.2.2.2.2.2.2.2]) rfl (p_ rfl (s_extract (r := .sl p2.1.1) rfl rfl) (p_ rfl (s_extract (r := .sl p2.1.2.1) rfl rfl) (p_ rfl (s_extract (r := .sl p2.1.2.2.1) rfl rfl) (p_ rfl (s_extract (r := .agg [.int .i64 p2.1.2.2.2.1, .int .i64 p2.1.2.2.2.2.1, .int .i64 p2.1.2.2.2.2.2.1, .int .i64 p2.1.2.2.2.2.2.2.1]) rfl rfl) (p_ rfl (s_extract (r := .sl p2.1.2.2.2.2.2.2.2) rfl rfl) (p_ rfl (s_alloc (zs := [.int .i64 0, .int .i64 0, .int .i64 0, .int .i64 0]) ty26 rfl rfl) (a_ (.sl p2.1.1) rfl (a_ (.sl p2.1.2.1) rfl (a_ (.sl p2.1.2.2.1) rfl (o_bind fun H3 hH3 => p_ rfl (s_stores ty26 rfl rfl rfl rfl hH3 (Nat.le_of_eq (sts_mono hH3).symm)) (a_ (.sl p2.1.2.2.2.2.2.2.2) rfl (f_nil (f_seq (f_seq ?_))))))))))))))
 refine f_ck fun g4 => f_ck fun g5 => f_bind fun p6 hp6 => f_draw (Φ := fun _ => True) (lim := 1000000) [0, 0, 2, 2, 0] (t_ rfl (fun _ => s_slice3A underlying26 ty3 rfl rfl rfl rfl g4) (t_ rfl (fun _ => s_slice3A underlying26 ty3 rfl rfl rfl rfl g5) (Trc.eff rfl rfl rfl (fun _ => trivial) (s_buildSlice (cs := [.sl ⟨false, p2.2.n, 0 + (0 : Int).toNat * 1, (2 : Int).toNat - (0 : Int).toNat, (2 : Int).toNat - (0 : Int).toNat, 0⟩, .sl ⟨false, p2.2.n, 0 + (2 : Int).toNat * 1, (4 : Int).toNat - (2 : Int).toNat, (4 : Int).toNat - (2 : Int).toNat, 0⟩]) underlying31 ty25 (by decide) (by decide) rfl (by decide) rfl) (Trc.eff rfl rfl rfl (fun _ => trivial) (s_callF rfl ok12 (sim12 hp6)) (t_ rfl (fun _ => s_not rfl) (Trc.nil (fun _ => trivial))))))) rfl (by decide +kernel) mixed ?_
 refine f_if (fun h7 => ?_) (fun h7 => ?_)
 ·refine f_know 27 rfl (bool_notT h7) (f_condF rfl (f_skip (q_ (p_ rfl (s_idxA underlying26 ty3 rfl rfl (by decide)) (o_bind fun x8 hx8 => p_ rfl (s_load underlying3 rfl rfl (ldI_eq hx8)) (p_ rfl (s_idxA underlying26 ty3 rfl rfl (by decide)) (o_bind fun x9 hx9 => p_ rfl (s_load underlying3 rfl rfl (ldI_eq hx9)) (p_ rfl (s_buildSlice (cs := [.int .i64 x8, .int .i64 x9]) underlying25 ty3 (by decide) (by decide) rfl (by decide) rfl) (p_ rfl (s_idxA underlying26 ty3 rfl rfl (by decide)) (o_bind fun x10 hx10 => p_ rfl (s_load underlying3 rfl rfl (ldI_eq hx10)) (p_ rfl (s_idxA underlying26 ty3 rfl rfl (by decide)) ?_)))))))))))
  refine o_bind fun x11 hx11 => p_ rfl (s_load underlying3 rfl rfl (ldI_eq hx11)) (p_ rfl (s_buildSlice (cs := [.int .i64 x10, .int .i64 x11]) underlying25 ty3 (by decide) (by decide) rfl (by decide) rfl) (p_ rfl (s_buildSlice (cs := [.sl ⟨false, p6.2.n, 0, 2, 2, 0⟩, .sl ⟨false, (p6.2.push (.cells [.int .i64 x8, .int .i64 x9] false)).n, 0, 2, 2, 0⟩]) underlying31 ty25 (by decide) (by decide) rfl (by decide) rfl) (o_bind fun p12 hp12 => p_ rfl (s_callF rfl ok13 (sim13 happ hp12)) (m_ (.tup [.agg [.int .i64 p12.1.1, .int .i64 p12.1.2.1], .int .i64 p12.1.2.2]) rfl (p_ rfl (s_extract (r := .agg [.int .i64 p12.1.1, .int .i64 p12.1.2.1]) rfl rfl) (p_ rfl (s_extract (r := .int .i64 p12.1.2.2) rfl rfl) (p_ rfl (s_alloc (zs := [.int .i64 0, .int .i64 0]) ty33 rfl rfl) (o_bind fun H13 hH13 => p_ rfl (s_stores ty33 rfl rfl rfl rfl hH13 (Nat.le_of_eq (sts_mono hH13).symm)) (a_ (.int .i64 p12.1.2.2) rfl (n_ ?_))))))))))
  refine m_ (.ptr p1.1.1 p1.1.2) rfl (o_bind fun p14 hp14 => p_ rfl (s_callF rfl ok14 (sim14 happ hp14)) (m_ (.tup [.str p14.1.1, .int .i64 p14.1.2]) rfl (p_ rfl (s_extract (r := .str p14.1.1) rfl rfl) (p_ rfl (s_extract (r := .int .i64 p14.1.2) rfl rfl) (a_ (.str p14.1.1) rfl (a_ (.int .i64 p14.1.2) rfl (n_ (m_ (.int .i64 p12.1.2.2) rfl (p_ rfl (s_eql rfl rfl) (m_ (.bool (decide (p12.1.2.2 = 0))) rfl ?_))))))))))
  refine o_if (fun h15 => ?_) (fun h15 => ?_)
  ·refine o_know 50 rfl (dec_true h15) (m_ (.int .i64 p14.1.2) rfl (p_ rfl (s_eql rfl rfl) (p_ rfl (s_pickT (v := .bool (decide (p14.1.2 = 0))) rfl rfl) (m_ (.bool (decide (p14.1.2 = 0))) rfl ?_))))
   refine o_if (fun h16 => ?_) (fun h16 => ?_)
   ·refine o_know 54 rfl (dec_true h16) (m_ (.str p14.1.1) rfl (o_bind fun x17 hx17 => o_bind fun x18 hx18 => p_ rfl (s_loads underlying33 rfl ty33 rfl (lds_cons (ldI_eq hx17) (lds_cons (ldI_eq hx18) (lds_nil)))) (p_ rfl (s_buildSlice (cs := [.int .i64 x17, .int .i64 x18]) underlying111 ty33 (by decide) (by decide) rfl (by decide) rfl) (o_bind fun p19 hp19 => p_ rfl (s_callF rfl ok15 (sim15 happ hp19)) (o_ck fun g20 => p_ rfl (s_addStr rfl rfl g20) (p_ rfl (s_eqStr rfl rfl) (p_ rfl (s_pickT (v := .bool (strEq p14.1.1 ((ByteArray.mk #[116, 97, 105, 108]) ++ p19.1))) rfl rfl) (m_ (.bool (strEq p14.1.1 ((ByteArray.mk #[116, 97, 105, 108]) ++ p19.1))) rfl ?_))))))))
    refine o_if (fun h21 => ?_) (fun h21 => ?_)
    ·exact o_know 62 rfl (bool_T h21) (o_bind fun p22 hp22 => o_bind fun x23 hx23 => p_ rfl (s_callA happ rfl hp22) (o_know 63 rfl (asB_eq hx23) (p_ rfl (s_pickT (v := .bool x23) rfl rfl) (a_ (.bool x23) rfl (f_nil (f_ret (.tmp rfl (.nil)) rfl))))))
    ·exact o_know 62 rfl (bool_F h21) (no_ rfl (p_ rfl (s_pickF (v := .bool false) rfl rfl) (a_ (.bool false) rfl (f_nil (f_ret (.tmp rfl (.nil)) rfl)))))
   ·exact o_know 54 rfl (dec_false h16) (no_ rfl (no_ rfl (no_ rfl (no_ rfl (no_ rfl (no_ rfl (p_ rfl (s_pickF (v := .bool false) rfl rfl) (m_ (.bool false) rfl (no_ rfl (p_ rfl (s_pickF (v := .bool false) rfl rfl) (a_ (.bool false) rfl (f_nil (f_ret (.tmp rfl (.nil)) rfl)))))))))))))
  ·refine o_know 50 rfl (dec_false h15) (no_ rfl (no_ rfl (p_ rfl (s_pickF (v := .bool false) rfl rfl) (m_ (.bool false) rfl (no_ rfl (no_ rfl (no_ rfl (no_ rfl (no_ rfl (no_ rfl (p_ rfl (s_pickF (v := .bool false) rfl rfl) (m_ (.bool false) rfl (no_ rfl (p_ rfl (s_pickF (v := .bool false) rfl rfl) (a_ (.bool false) rfl ?_)))))))))))))))
   exact f_nil (f_ret (.tmp rfl (.nil)) rfl)
 ·exact f_know 27 rfl (bool_notF h7) (f_condT rfl (q_ (a_ (.bool false) rfl (f_nil (f_ret (.tmp rfl (.nil)) rfl)))))

/- 94 slices.Max[[]int,int] -/
theorem ok94 : FnOk prog 94 := ⟨⟨f94, func94, by kernel_rfl, rfl⟩⟩
theorem s94_l0 : ∀ (k_ : Nat) (v1 : Sl) (v2 v3 : Int) (H : Hp), Fin prog f94 ret94 25 (todoAt (bodyOf f94) [1, 1, 1, 0, 1, 0, 0] []) [(0, .sl v1), (3, .int .i64 v2), (4, .int .i64 v3)] H (r94_l0 k_ v1 v2 v3 H) := by
 intro k_
 induction k_ with
 | zero => intro _ _ _ _; exact f_none
 | succ k_ ih =>
  intro v1 v2 v3 H
  rw [r94_l0]
  refine f_seq (q_ (m_ (.int .i64 v3) rfl (m_ (.sl v1) rfl (p_ rfl (s_lenS rfl underlying25 rfl) (p_ rfl (s_lss rfl rfl) (f_nil ?_))))))
  refine f_if (fun h1 => ?_) (fun h1 => ?_)
  ·refine kT 15 h1 rfl (f_skip (f_seq (f_block (f_region (m_ (.int .i64 v2) rfl (m_ (.sl v1) rfl (m_ (.int .i64 v3) rfl (o_ck fun g2 => p_ rfl (s_idx underlying25 ty3 rfl rfl g2) (o_bind fun x3 hx3 => p_ rfl (s_load underlying3 rfl rfl (ldI_eq hx3)) (p_ rfl (s_max2 rfl rfl) (a_ (.int .i64 (if v2 < x3 then x3 else v2)) rfl (f_nil ?_))))))))))))
   exact f_inBlock (f_region (m_ (.int .i64 v3) rfl (p_ rfl (s_add rfl rfl) (a_ (.int .i64 (w64 (v3 + 1))) rfl (f_nil (f_inLoop (f_keep [0, 3, 4] (ih v1 (if v2 < x3 then x3 else v2) (w64 (v3 + 1)) H))))))))
  ·exact kF 15 h1 rfl (f_exit rfl (q_ (m_ (.int .i64 v2) rfl (a_ (.int .i64 v2) rfl (f_nil (f_ret (.tmp rfl (.nil)) rfl))))))

theorem sim94 {a0 : Sl} {H : Hp} {p : Int × Hp} (h : r94 a0 H = some p) : CallSim prog 94 [.sl a0] H (.int .i64 p.1) p.2 := by
 refine callSim (fn := f94) (ret := ret94) func94 rfl Tryz.ntmps94 rfl ?_ h
 unfold r94
 refine q_ (a_ (.int .i64 0) rfl (f_nil (f_seq (q_ (m_ (.sl a0) rfl (p_ rfl (s_lenS rfl underlying25 rfl) (p_ rfl (s_lss rfl rfl) (f_nil ?_))))))))
 refine f_if (fun h1 => ?_) (fun h1 => ?_)
 ·exact kT 7 h1 rfl (f_region (o_none))
 ·refine kF 7 h1 rfl (f_skip (q_ (m_ (.sl a0) rfl (o_ck fun g2 => p_ rfl (s_idx underlying25 ty3 rfl rfl g2) (o_bind fun x3 hx3 => p_ rfl (s_load underlying3 rfl rfl (ldI_eq hx3)) (a_ (.int .i64 x3) rfl (f_nil (f_seq (q_ (a_ (.int .i64 1) rfl ?_))))))))))
  exact f_nil (f_block (f_loop (f_keep [0, 3, 4] (s94_l0 FUEL a0 x3 1 H))))

/- 110 slices.Min[[]int,int] -/
theorem ok110 : FnOk prog 110 := ⟨⟨f110, func110, by kernel_rfl, rfl⟩⟩
theorem s110_l0 : ∀ (k_ : Nat) (v1 : Sl) (v2 v3 : Int) (H : Hp), Fin prog f110 ret110 25 (todoAt (bodyOf f110) [1, 1, 1, 0, 1, 0, 0] []) [(0, .sl v1), (3, .int .i64 v2), (4, .int .i64 v3)] H (r110_l0 k_ v1 v2 v3 H) := by
 intro k_
 induction k_ with
 | zero => intro _ _ _ _; exact f_none
 | succ k_ ih =>
  intro v1 v2 v3 H
  rw [r110_l0]
  refine f_seq (q_ (m_ (.int .i64 v3) rfl (m_ (.sl v1) rfl (p_ rfl (s_lenS rfl underlying25 rfl) (p_ rfl (s_lss rfl rfl) (f_nil ?_))))))
  refine f_if (fun h1 => ?_) (fun h1 => ?_)
  ·refine kT 15 h1 rfl (f_skip (f_seq (f_block (f_region (m_ (.int .i64 v2) rfl (m_ (.sl v1) rfl (m_ (.int .i64 v3) rfl (o_ck fun g2 => p_ rfl (s_idx underlying25 ty3 rfl rfl g2) (o_bind fun x3 hx3 => p_ rfl (s_load underlying3 rfl rfl (ldI_eq hx3)) (p_ rfl (s_min2 rfl rfl) (a_ (.int .i64 (if x3 < v2 then x3 else v2)) rfl (f_nil ?_))))))))))))
   exact f_inBlock (f_region (m_ (.int .i64 v3) rfl (p_ rfl (s_add rfl rfl) (a_ (.int .i64 (w64 (v3 + 1))) rfl (f_nil (f_inLoop (f_keep [0, 3, 4] (ih v1 (if x3 < v2 then x3 else v2) (w64 (v3 + 1)) H))))))))
  ·exact kF 15 h1 rfl (f_exit rfl (q_ (m_ (.int .i64 v2) rfl (a_ (.int .i64 v2) rfl (f_nil (f_ret (.tmp rfl (.nil)) rfl))))))

theorem sim110 {a0 : Sl} {H : Hp} {p : Int × Hp} (h : r110 a0 H = some p) : CallSim prog 110 [.sl a0] H (.int .i64 p.1) p.2 := by
 refine callSim (fn := f110) (ret := ret110) func110 rfl Tryz.ntmps110 rfl ?_ h
 unfold r110
 refine q_ (a_ (.int .i64 0) rfl (f_nil (f_seq (q_ (m_ (.sl a0) rfl (p_ rfl (s_lenS rfl underlying25 rfl) (p_ rfl (s_lss rfl rfl) (f_nil ?_))))))))
 refine f_if (fun h1 => ?_) (fun h1 => ?_)
 ·exact kT 7 h1 rfl (f_region (o_none))
 ·refine kF 7 h1 rfl (f_skip (q_ (m_ (.sl a0) rfl (o_ck fun g2 => p_ rfl (s_idx underlying25 ty3 rfl rfl g2) (o_bind fun x3 hx3 => p_ rfl (s_load underlying3 rfl rfl (ldI_eq hx3)) (a_ (.int .i64 x3) rfl (f_nil (f_seq (q_ (a_ (.int .i64 1) rfl ?_))))))))))
  exact f_nil (f_block (f_loop (f_keep [0, 3, 4] (s110_l0 FUEL a0 x3 1 H))))

end Go.Lt.P10
