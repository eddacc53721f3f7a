/- PRINTED BY A PROGRAM OF OURS: what each function that 'TopHeavy' reaches computes on the abstract heap, and that the translated code does just that. Nothing is asked of the input. -/
import Derived.Test.YtopildlfbhfghaaGreatDoorG5P2
set_option linter.unusedVariables false
set_option linter.unusedSimpArgs false
set_option maxRecDepth 100000
set_option maxHeartbeats 4000000
namespace Go.Lt.P10
open Go Go.Lt Go.Proofs Go.Proofs.Tryz
/- 62 (*congou/chest.state).ask -/
theorem ok62 : FnOk prog 62 := ⟨⟨f62, func62, by kernel_rfl, rfl⟩⟩
theorem s62_j0 {app : App} (happ : AppSim prog app) (v1 v2 v3 : ByteArray) (v4 : AV) (H : Hp) : Fin prog f62 ret62 74 (todoAt (bodyOf f62) [1, 1, 1, 1] []) [(1, .str v1), (6, .str v2), (9, .str v3), (10, v4)] H (r62_j0 app v1 v2 v3 v4 H) := by
 unfold r62_j0
 refine q_ (m_ (.str v3) rfl (m_ (.str v1) rfl (o_bind fun p1 hp1 => p_ rfl (s_callF rfl ok108 (sim108 happ hp1)) (m_ (.tup [.agg [.sl p1.1.1, .sl p1.1.2.1], .bool p1.1.2.2]) rfl (p_ rfl (s_extract (r := .agg [.sl p1.1.1, .sl p1.1.2.1]) rfl rfl) (p_ rfl (s_extract (r := .bool p1.1.2.2) rfl rfl) (p_ rfl (s_alloc (zs := [.sl ⟨true, 0, 0, 0, 0, 0⟩, .sl ⟨true, 0, 0, 0, 0, 0⟩]) ty167 rfl rfl) (o_bind fun H2 hH2 => p_ rfl (s_stores ty167 rfl rfl rfl rfl hH2 (Nat.le_of_eq (sts_mono hH2).symm)) (a_ (.bool p1.1.2.2) rfl (f_nil (f_seq (f_seq ?_))))))))))))
 refine f_region (m_ (.bool p1.1.2.2) rfl (p_ rfl (s_not rfl) (f_nil ?_)))
 refine f_if (fun h3 => ?_) (fun h3 => ?_)
 ·refine f_know 59 rfl (bool_notT h3) (f_condF rfl (f_skip (q_ (m_ v4 rfl (o_bind fun x4 hx4 => o_bind fun x5 hx5 => p_ rfl (s_loads underlying167 rfl ty167 rfl (lds_cons (ldSl_eq hx4) (lds_cons (ldSl_eq hx5) (lds_nil)))) (o_bind fun p6 hp6 => o_bind fun x7 hx7 => o_ck fun g8 => o_bind fun x9 hx9 => o_bind fun x10 hx10 => o_bind fun x11 hx11 => o_bind fun x12 hx12 => ?_))))))
  refine p_ rfl (s_callv happ rfl rfl hp6) (o_know 63 rfl (tupOf2 hx7 g8 (gete hx9 (asSl_eq hx10)) (gete hx11 (asI_eq hx12))) (m_ (.tup [.sl x10, .int .i64 x12]) rfl (p_ rfl (s_extract (r := .sl x10) rfl rfl) (p_ rfl (s_extract (r := .int .i64 x12) rfl rfl) (a_ (.sl x10) rfl (a_ (.int .i64 x12) rfl (f_nil (f_seq (q_ (m_ (.int .i64 x12) rfl (p_ rfl (s_neq rfl rfl) (f_nil ?_))))))))))))
  refine f_if (fun h13 => ?_) (fun h13 => ?_)
  ·exact kT 67 h13 rfl (q_ (m_ (.int .i64 x12) rfl (a_ (.str (ByteArray.mk #[])) rfl (a_ (.int .i64 x12) rfl (f_nil (f_ret (.tmp rfl (.tmp rfl (.nil))) rfl))))))
  ·refine kF 67 h13 rfl (f_skip (q_ (m_ (.str v2) rfl (p_ rfl (s_buildSlice (cs := [.str v2]) underlying22 ty9 (by decide) (by decide) rfl (by decide) rfl) (m_ (.sl x10) rfl (o_bind fun x14 hx14 => o_ck fun g15 => o_bind fun x16 hx16 => p_ rfl (s_append rfl rfl underlying22 underlying22 ty9 (by decide) rfl (by decide) rfl rfl hx14 g15 hx16) (o_bind fun p17 hp17 => o_bind fun x18 hx18 => p_ rfl (s_callA happ rfl hp17) (o_know 73 rfl (asStr_eq hx18) ?_))))))))
   exact a_ (.str x18) rfl (a_ (.int .i64 0) rfl (f_nil (f_ret (.tmp rfl (.tmp rfl (.nil))) rfl)))
 ·exact f_know 59 rfl (bool_notF h3) (f_condT rfl (q_ (a_ (.str (ByteArray.mk #[])) rfl (a_ (.int .i64 3) rfl (f_nil (f_ret (.tmp rfl (.tmp rfl (.nil))) rfl))))))

theorem sim62 {app : App} (happ : AppSim prog app) {a0b : Nat} {a0o : Nat} {a1 : ByteArray} {H : Hp} {p : (ByteArray × Int) × Hp} (h : r62 app a0b a0o a1 H = some p) : CallSim prog 62 [.ptr a0b a0o, .str a1] H (.tup [.str p.1.1, .int .i64 p.1.2]) p.2 := by
 refine callSim (fn := f62) (ret := ret62) func62 rfl Tryz.ntmps62 rfl ?_ h
 unfold r62
 refine q_ (a_ (.str (ByteArray.mk #[])) rfl (a_ (.int .i64 0) rfl (n_ (m_ (.str a1) rfl (o_bind fun p1 hp1 => p_ rfl (s_callF rfl ok97 (sim97 hp1)) (m_ (.tup [.str p1.1.1, .str p1.1.2.1, .bool p1.1.2.2]) rfl (p_ rfl (s_extract (r := .str p1.1.1) rfl rfl) (p_ rfl (s_extract (r := .str p1.1.2.1) rfl rfl) (p_ rfl (s_extract (r := .bool p1.1.2.2) rfl rfl) (a_ (.str p1.1.1) rfl (a_ (.str p1.1.2.1) rfl ?_)))))))))))
 refine a_ (.bool p1.1.2.2) rfl (n_ (m_ (.ptr a0b a0o) rfl (p_ rfl (s_makeFunc rfl rfl) (a_ (.str (ByteArray.mk #[])) rfl (a_ (.fn 98 [.ptr a0b a0o] []) rfl (f_nil (f_seq (q_ (m_ (.str p1.1.1) rfl (f_nil (f_block (f_seq ?_))))))))))))
 refine f_region (p_ rfl (s_eqStr rfl rfl) (a_ (.bool (strEq p1.1.1 (ByteArray.mk #[103, 97, 112]))) rfl (f_nil ?_)))
 refine f_if (fun h2 => ?_) (fun h2 => ?_)
 ·exact bT 24 h2 rfl (f_skip (f_inBlock (f_keep [1, 6, 9, 10] (s62_j0 happ a1 p1.1.1 (ByteArray.mk #[]) (.fn 98 [.ptr a0b a0o] []) p1.2))))
 ·refine bF 24 h2 rfl (q_ (p_ rfl (s_eqStr rfl rfl) (a_ (.bool (strEq p1.1.1 (ByteArray.mk #[104, 101, 97, 118, 121]))) rfl (f_nil ?_))))
  refine f_if (fun h3 => ?_) (fun h3 => ?_)
  ·exact bT 26 h3 rfl (f_region (m_ (.ptr a0b a0o) rfl (p_ rfl (s_makeFunc rfl rfl) (a_ (.str (ByteArray.mk #[100])) rfl (a_ (.fn 99 [.ptr a0b a0o] []) rfl (f_nil (f_inBlock (f_keep [1, 6, 9, 10] (s62_j0 happ a1 p1.1.1 (ByteArray.mk #[100]) (.fn 99 [.ptr a0b a0o] []) p1.2)))))))))
  ·refine bF 26 h3 rfl (q_ (p_ rfl (s_eqStr rfl rfl) (a_ (.bool (strEq p1.1.1 (ByteArray.mk #[111, 102, 116, 101, 110]))) rfl (f_nil ?_))))
   refine f_if (fun h4 => ?_) (fun h4 => ?_)
   ·exact bT 30 h4 rfl (f_region (m_ (.ptr a0b a0o) rfl (p_ rfl (s_makeFunc rfl rfl) (a_ (.str (ByteArray.mk #[110])) rfl (a_ (.fn 100 [.ptr a0b a0o] []) rfl (f_nil (f_inBlock (f_keep [1, 6, 9, 10] (s62_j0 happ a1 p1.1.1 (ByteArray.mk #[110]) (.fn 100 [.ptr a0b a0o] []) p1.2)))))))))
   ·refine bF 30 h4 rfl (q_ (p_ rfl (s_eqStr rfl rfl) (a_ (.bool (strEq p1.1.1 (ByteArray.mk #[116, 97, 105, 108]))) rfl (f_nil ?_))))
    refine f_if (fun h5 => ?_) (fun h5 => ?_)
    ·exact bT 34 h5 rfl (f_region (m_ (.ptr a0b a0o) rfl (p_ rfl (s_makeFunc rfl rfl) (a_ (.fn 101 [.ptr a0b a0o] []) rfl (f_nil (f_inBlock (f_keep [1, 6, 9, 10] (s62_j0 happ a1 p1.1.1 (ByteArray.mk #[]) (.fn 101 [.ptr a0b a0o] []) p1.2))))))))
    ·refine bF 34 h5 rfl (q_ (p_ rfl (s_eqStr rfl rfl) (a_ (.bool (strEq p1.1.1 (ByteArray.mk #[102, 97, 105, 114]))) rfl (f_nil ?_))))
     refine f_if (fun h6 => ?_) (fun h6 => ?_)
     ·exact bT 38 h6 rfl (f_region (m_ (.ptr a0b a0o) rfl (p_ rfl (s_makeFunc rfl rfl) (a_ (.str (ByteArray.mk #[100, 100])) rfl (a_ (.fn 102 [.ptr a0b a0o] []) rfl (f_nil (f_inBlock (f_keep [1, 6, 9, 10] (s62_j0 happ a1 p1.1.1 (ByteArray.mk #[100, 100]) (.fn 102 [.ptr a0b a0o] []) p1.2)))))))))
     ·refine bF 38 h6 rfl (q_ (p_ rfl (s_eqStr rfl rfl) (a_ (.bool (strEq p1.1.1 (ByteArray.mk #[114, 111, 117, 110, 100]))) rfl (f_nil ?_))))
      refine f_if (fun h7 => ?_) (fun h7 => ?_)
      ·exact bT 42 h7 rfl (f_region (a_ (.str (ByteArray.mk #[100])) rfl (a_ (.fn 103 [] []) rfl (f_nil (f_inBlock (f_keep [1, 6, 9, 10] (s62_j0 happ a1 p1.1.1 (ByteArray.mk #[100]) (.fn 103 [] []) p1.2)))))))
      ·refine bF 42 h7 rfl (q_ (p_ rfl (s_eqStr rfl rfl) (a_ (.bool (strEq p1.1.1 (ByteArray.mk #[99, 117, 114, 118, 101]))) rfl (f_nil ?_))))
       refine f_if (fun h8 => ?_) (fun h8 => ?_)
       ·exact bT 44 h8 rfl (f_region (a_ (.str (ByteArray.mk #[100])) rfl (a_ (.fn 104 [] []) rfl (f_nil (f_inBlock (f_keep [1, 6, 9, 10] (s62_j0 happ a1 p1.1.1 (ByteArray.mk #[100]) (.fn 104 [] []) p1.2)))))))
       ·refine bF 44 h8 rfl (q_ (p_ rfl (s_eqStr rfl rfl) (a_ (.bool (strEq p1.1.1 (ByteArray.mk #[115, 113, 117, 97, 114, 101]))) rfl (f_nil ?_))))
        refine f_if (fun h9 => ?_) (fun h9 => ?_)
        ·exact bT 46 h9 rfl (f_region (a_ (.str (ByteArray.mk #[100, 100, 100, 100])) rfl (a_ (.fn 105 [] []) rfl (f_nil (f_inBlock (f_keep [1, 6, 9, 10] (s62_j0 happ a1 p1.1.1 (ByteArray.mk #[100, 100, 100, 100]) (.fn 105 [] []) p1.2)))))))
        ·refine bF 46 h9 rfl (q_ (p_ rfl (s_eqStr rfl rfl) (a_ (.bool (strEq p1.1.1 (ByteArray.mk #[114, 111, 119]))) rfl (f_nil ?_))))
         refine f_if (fun h10 => ?_) (fun h10 => ?_)
         ·exact bT 48 h10 rfl (f_region (a_ (.str (ByteArray.mk #[100, 100])) rfl (a_ (.fn 106 [] []) rfl (f_nil (f_inBlock (f_keep [1, 6, 9, 10] (s62_j0 happ a1 p1.1.1 (ByteArray.mk #[100, 100]) (.fn 106 [] []) p1.2)))))))
         ·refine bF 48 h10 rfl (q_ (p_ rfl (s_eqStr rfl rfl) (a_ (.bool (strEq p1.1.1 (ByteArray.mk #[108, 101, 97, 115, 116]))) rfl (f_nil ?_))))
          refine f_if (fun h11 => ?_) (fun h11 => ?_)
          ·exact bT 50 h11 rfl (f_region (a_ (.str (ByteArray.mk #[100])) rfl (a_ (.fn 107 [] []) rfl (f_nil (f_inBlock (f_keep [1, 6, 9, 10] (s62_j0 happ a1 p1.1.1 (ByteArray.mk #[100]) (.fn 107 [] []) p1.2)))))))
          ·exact bF 50 h11 rfl (q_ (a_ (.str (ByteArray.mk #[])) rfl (a_ (.int .i64 3) rfl (f_nil (f_ret (.tmp rfl (.tmp rfl (.nil))) rfl)))))

/- 14 (*congou/chest.Chest).Ask -/
theorem ok14 : FnOk prog 14 := ⟨⟨f14, func14, by kernel_rfl, rfl⟩⟩
theorem sim14 {app : App} (happ : AppSim prog app) {a0b : Nat} {a0o : Nat} {a1 : ByteArray} {H : Hp} {p : (ByteArray × Int) × Hp} (h : r14 app a0b a0o a1 H = some p) : CallSim prog 14 [.ptr a0b a0o, .str a1] H (.tup [.str p.1.1, .int .i64 p.1.2]) p.2 := by
 refine callSim (fn := f14) (ret := ret14) func14 rfl Tryz.ntmps14 rfl ?_ h
 unfold r14
 refine q_ (a_ (.str (ByteArray.mk #[])) rfl (a_ (.int .i64 0) rfl (f_nil (f_seq (q_ (m_ (.ptr a0b a0o) rfl (o_bind fun p1 hp1 => p_ rfl (s_callF rfl ok60 (sim60 hp1)) (f_nil ?_))))))))
 refine f_if (fun h2 => ?_) (fun h2 => ?_)
 ·exact bT 7 h2 rfl (q_ (a_ (.str (ByteArray.mk #[])) rfl (a_ (.int .i64 1) rfl (f_nil (f_ret (.tmp rfl (.tmp rfl (.nil))) rfl)))))
 ·refine bF 7 h2 rfl (f_skip (q_ (m_ (.ptr a0b a0o) rfl (o_bind fun p3 hp3 => p_ rfl (s_callF rfl ok61 (sim61 hp3)) (m_ (.str a1) rfl (o_bind fun p4 hp4 => p_ rfl (s_callF rfl ok62 (sim62 happ hp4)) (p_ rfl (s_extract (r := .str p4.1.1) rfl rfl) (p_ rfl (s_extract (r := .int .i64 p4.1.2) rfl rfl) (a_ (.str p4.1.1) rfl (a_ (.int .i64 p4.1.2) rfl (f_nil ?_)))))))))))
  exact f_ret (.tmp rfl (.tmp rfl (.nil))) rfl

/- 16 congou/congoutop.takes -/
theorem ok16 : FnOk prog 16 := ⟨⟨f16, func16, by kernel_rfl, rfl⟩⟩
theorem sim16 {app : App} (happ : AppSim prog app) {H : Hp} {p : Bool × Hp} (h : r16 app H = some p) : CallSim prog 16 [] H (.bool p.1) p.2 := by
 refine callSim (fn := f16) (ret := ret16) func16 rfl Tryz.ntmps16 rfl ?_ h
 unfold r16
 refine q_ (a_ (.bool false) rfl (n_ (o_bind fun p1 hp1 => p_ rfl (s_callF rfl ok47 (sim47 hp1)) (a_ (.ptr p1.1.1 p1.1.2) rfl (n_ (m_ (.ptr p1.1.1 p1.1.2) rfl (o_bind fun p2 hp2 => p_ rfl (s_callF rfl ok20 (sim20 happ hp2)) (m_ (.tup [.str p2.1.1, .int .i64 p2.1.2]) rfl ?_))))))))
 refine p_ rfl (s_extract (r := .str p2.1.1) rfl rfl) (p_ rfl (s_extract (r := .int .i64 p2.1.2) rfl rfl) (a_ (.str p2.1.1) rfl (a_ (.int .i64 p2.1.2) rfl (n_ (m_ (.ptr p1.1.1 p1.1.2) rfl (o_bind fun p3 hp3 => p_ rfl (s_callF rfl ok14 (sim14 happ hp3)) (m_ (.tup [.str p3.1.1, .int .i64 p3.1.2]) rfl (p_ rfl (s_extract (r := .str p3.1.1) rfl rfl) (p_ rfl (s_extract (r := .int .i64 p3.1.2) rfl rfl) (a_ (.str p3.1.1) rfl (a_ (.int .i64 p3.1.2) rfl (f_nil ?_))))))))))))
 refine q_ (m_ (.int .i64 p2.1.2) rfl (p_ rfl (s_eql rfl rfl) (m_ (.bool (decide (p2.1.2 = 0))) rfl ?_)))
 refine o_if (fun h4 => ?_) (fun h4 => ?_)
 ·refine o_know 19 rfl (dec_true h4) (m_ (.int .i64 p3.1.2) rfl (p_ rfl (s_eql rfl rfl) (p_ rfl (s_pickT (v := .bool (decide (p3.1.2 = 0))) rfl rfl) (m_ (.bool (decide (p3.1.2 = 0))) rfl ?_))))
  refine o_if (fun h5 => ?_) (fun h5 => ?_)
  ·refine o_know 23 rfl (dec_true h5) (m_ (.str p2.1.1) rfl (p_ rfl (s_eqStr rfl rfl) (p_ rfl (s_pickT (v := .bool (strEq p2.1.1 (ByteArray.mk #[108, 101, 97, 102]))) rfl rfl) (m_ (.bool (strEq p2.1.1 (ByteArray.mk #[108, 101, 97, 102]))) rfl ?_))))
   refine o_if (fun h6 => ?_) (fun h6 => ?_)
   ·exact o_know 27 rfl (bool_T h6) (m_ (.str p3.1.1) rfl (p_ rfl (s_eqStr rfl rfl) (p_ rfl (s_pickT (v := .bool (strEq p3.1.1 (ByteArray.mk #[103, 97, 112, 32, 48]))) rfl rfl) (a_ (.bool (strEq p3.1.1 (ByteArray.mk #[103, 97, 112, 32, 48]))) rfl (f_nil (f_ret (.tmp rfl (.nil)) rfl))))))
   ·exact o_know 27 rfl (bool_F h6) (no_ rfl (no_ rfl (p_ rfl (s_pickF (v := .bool false) rfl rfl) (a_ (.bool false) rfl (f_nil (f_ret (.tmp rfl (.nil)) rfl))))))
  ·exact o_know 23 rfl (dec_false h5) (no_ rfl (no_ rfl (p_ rfl (s_pickF (v := .bool false) rfl rfl) (m_ (.bool false) rfl (no_ rfl (no_ rfl (p_ rfl (s_pickF (v := .bool false) rfl rfl) (a_ (.bool false) rfl (f_nil (f_ret (.tmp rfl (.nil)) rfl))))))))))
 ·exact o_know 19 rfl (dec_false h4) (no_ rfl (no_ rfl (p_ rfl (s_pickF (v := .bool false) rfl rfl) (m_ (.bool false) rfl (no_ rfl (no_ rfl (p_ rfl (s_pickF (v := .bool false) rfl rfl) (m_ (.bool false) rfl (no_ rfl (no_ rfl (p_ rfl (s_pickF (v := .bool false) rfl rfl) (a_ (.bool false) rfl (f_nil (f_ret (.tmp rfl (.nil)) rfl))))))))))))))

/- 19 congou/congoutop.words -/
theorem ok19 : FnOk prog 19 := ⟨⟨f19, func19, by kernel_rfl, rfl⟩⟩
theorem s19_l0 {app : App} (happ : AppSim prog app) : ∀ (k_ : Nat) (v1 : ByteArray) (v2 : Sl) (v3 v4 : Int) (H : Hp), Fin prog f19 ret19 19 (todoAt (bodyOf f19) [1, 1, 0, 1, 0, 0] []) [(3, .str v1), (6, .sl v2), (7, .int .i64 v3), (8, .int .i64 v4)] H (r19_l0 app k_ v1 v2 v3 v4 H) := by
 intro k_
 induction k_ with
 | zero => intro _ _ _ _ _; exact f_none
 | succ k_ ih =>
  intro v1 v2 v3 v4 H
  rw [r19_l0]
  refine q_ (p_ rfl (s_lss rfl rfl) (f_nil (f_seq ?_)))
  refine f_if (fun h1 => ?_) (fun h1 => ?_)
  ·refine kT 9 h1 rfl (f_skip (f_seq (f_block (q_ (o_ck fun g2 => p_ rfl (s_idx underlying25 ty3 rfl rfl g2) (o_bind fun x3 hx3 => p_ rfl (s_load underlying3 rfl rfl (ldI_eq hx3)) (a_ (.int .i64 x3) rfl (f_nil (f_region (m_ (.str v1) rfl (m_ (.int .i64 x3) rfl ?_)))))))))))
   refine o_bind fun p4 hp4 => o_bind fun x5 hx5 => p_ rfl (s_callA happ rfl hp4) (o_know 14 rfl (asStr_eq hx5) (o_ck fun g6 => p_ rfl (s_addStr rfl rfl g6) (o_ck fun g7 => p_ rfl (s_addStr rfl rfl g7) (a_ (.str (v1 ++ ((ByteArray.mk #[32]) ++ x5))) rfl (f_nil (f_inBlock (f_region (p_ rfl (s_add rfl rfl) (m_ (.int .i64 (w64 (v4 + 1))) rfl (f_nil (f_inLoop ?_)))))))))))
   exact f_keep [3, 6, 7, 8] (ih (v1 ++ ((ByteArray.mk #[32]) ++ x5)) v2 v3 (w64 (v4 + 1)) p4.2)
  ·exact kF 9 h1 rfl (f_exit rfl (q_ (m_ (.str v1) rfl (a_ (.str v1) rfl (f_nil (f_ret (.tmp rfl (.nil)) rfl))))))

theorem sim19 {app : App} (happ : AppSim prog app) {a0 : Sl} {H : Hp} {p : ByteArray × Hp} (h : r19 app a0 H = some p) : CallSim prog 19 [.sl a0] H (.str p.1) p.2 := by
 refine callSim (fn := f19) (ret := ret19) func19 rfl Tryz.ntmps19 rfl ?_ h
 unfold r19
 refine q_ (a_ (.str (ByteArray.mk #[])) rfl (n_ (a_ (.str (ByteArray.mk #[])) rfl (f_nil (f_seq (q_ (m_ (.sl a0) rfl (p_ rfl (s_lenS rfl underlying25 rfl) (m_ (.int .i64 0) rfl (f_nil (f_block ?_)))))))))))
 exact f_loop (f_keep [3, 6, 7, 8] (s19_l0 happ FUEL (ByteArray.mk #[]) a0 (a0.len : Int) 0 H))

/- 68 congou/sketch.isK -/
theorem ok68 : FnOk prog 68 := ⟨⟨f68, func68, by kernel_rfl, rfl⟩⟩
theorem sim68 {a0 : Int} {H : Hp} {p : Bool × Hp} (h : r68 a0 H = some p) : CallSim prog 68 [.int .i64 a0] H (.bool p.1) p.2 := by
 refine callSim (fn := f68) (ret := ret68) func68 rfl Tryz.ntmps68 rfl ?_ h
 unfold r68
 refine q_ (a_ (.bool false) rfl (n_ (m_ (.int .i64 a0) rfl (p_ rfl (s_geq rfl rfl) (m_ (.bool (decide (1 ≤ a0))) rfl ?_)))))
 refine o_if (fun h1 => ?_) (fun h1 => ?_)
 ·exact o_know 5 rfl (dec_true h1) (m_ (.int .i64 a0) rfl (p_ rfl (s_leq rfl rfl) (p_ rfl (s_pickT (v := .bool (decide (a0 ≤ 8))) rfl rfl) (a_ (.bool (decide (a0 ≤ 8))) rfl (f_nil (f_ret (.tmp rfl (.nil)) rfl))))))
 ·exact o_know 5 rfl (dec_false h1) (no_ rfl (no_ rfl (p_ rfl (s_pickF (v := .bool false) rfl rfl) (a_ (.bool false) rfl (f_nil (f_ret (.tmp rfl (.nil)) rfl))))))

/- 174 slices.IndexFunc[[]int,int] -/
theorem ok174 : FnOk prog 174 := ⟨⟨f174, func174, by kernel_rfl, rfl⟩⟩
theorem s174_l0 {app : App} (happ : AppSim prog app) : ∀ (k_ : Nat) (v1 : Sl) (v2 : AV) (v3 v4 : Int) (H : Hp), Fin prog f174 ret174 19 (todoAt (bodyOf f174) [1, 0, 1, 0, 0] []) [(0, .sl v1), (1, v2), (7, .int .i64 v3), (8, .int .i64 v4)] H (r174_l0 app k_ v1 v2 v3 v4 H) := by
 intro k_
 induction k_ with
 | zero => intro _ _ _ _ _; exact f_none
 | succ k_ ih =>
  intro v1 v2 v3 v4 H
  rw [r174_l0]
  refine q_ (p_ rfl (s_lss rfl rfl) (f_nil (f_seq ?_)))
  refine f_if (fun h1 => ?_) (fun h1 => ?_)
  ·refine kT 9 h1 rfl (f_skip (f_seq (f_block (q_ (m_ (.int .i64 v4) rfl (a_ (.int .i64 v4) rfl (n_ (m_ v2 rfl (m_ (.sl v1) rfl (m_ (.int .i64 v4) rfl (o_ck fun g2 => ?_)))))))))))
   refine p_ rfl (s_idx underlying25 ty3 rfl rfl g2) (o_bind fun x3 hx3 => p_ rfl (s_load underlying3 rfl rfl (ldI_eq hx3)) (o_bind fun p4 hp4 => o_bind fun x5 hx5 => p_ rfl (s_callv happ rfl rfl hp4) (o_know 16 rfl (asB_eq hx5) (f_nil ?_))))
   refine f_if (fun h6 => ?_) (fun h6 => ?_)
   ·exact bT 16 h6 rfl (q_ (m_ (.int .i64 v4) rfl (a_ (.int .i64 v4) rfl (f_nil (f_ret (.tmp rfl (.nil)) rfl)))))
   ·exact bF 16 h6 rfl (f_skip (f_inBlock (f_region (p_ rfl (s_add rfl rfl) (m_ (.int .i64 (w64 (v4 + 1))) rfl (f_nil (f_inLoop (f_keep [0, 1, 7, 8] (ih v1 v2 v3 (w64 (v4 + 1)) p4.2)))))))))
  ·exact kF 9 h1 rfl (f_exit rfl (q_ (a_ (.int .i64 (-1)) rfl (f_nil (f_ret (.tmp rfl (.nil)) rfl)))))

theorem sim174 {app : App} (happ : AppSim prog app) {a0 : Sl} {a1 : AV} {H : Hp} {p : Int × Hp} (h : r174 app a0 a1 H = some p) : CallSim prog 174 [.sl a0, a1] H (.int .i64 p.1) p.2 := by
 refine callSim (fn := f174) (ret := ret174) func174 rfl Tryz.ntmps174 rfl ?_ h
 unfold r174
 exact q_ (a_ (.int .i64 0) rfl (f_nil (f_seq (q_ (m_ (.sl a0) rfl (p_ rfl (s_lenS rfl underlying25 rfl) (m_ (.int .i64 0) rfl (f_nil (f_block (f_loop (f_keep [0, 1, 7, 8] (s174_l0 happ FUEL a0 a1 (a0.len : Int) 0 H))))))))))))

/- 121 slices.ContainsFunc[[]int,int] -/
theorem ok121 : FnOk prog 121 := ⟨⟨f121, func121, by kernel_rfl, rfl⟩⟩
theorem sim121 {app : App} (happ : AppSim prog app) {a0 : Sl} {a1 : AV} {H : Hp} {p : Bool × Hp} (h : r121 app a0 a1 H = some p) : CallSim prog 121 [.sl a0, a1] H (.bool p.1) p.2 := by
 refine callSim (fn := f121) (ret := ret121) func121 rfl Tryz.ntmps121 rfl ?_ h
 unfold r121
 exact q_ (a_ (.bool false) rfl (n_ (m_ (.sl a0) rfl (m_ a1 rfl (o_bind fun p1 hp1 => p_ rfl (s_callF rfl ok174 (sim174 happ hp1)) (p_ rfl (s_geq rfl rfl) (a_ (.bool (decide (0 ≤ p1.1))) rfl (f_nil (f_ret (.tmp rfl (.nil)) rfl)))))))))

/- 74 congou/sketch.isKey -/
theorem ok74 : FnOk prog 74 := ⟨⟨f74, func74, by kernel_rfl, rfl⟩⟩
theorem sim74 {a0 : Int} {H : Hp} {p : Bool × Hp} (h : r74 a0 H = some p) : CallSim prog 74 [.int .i64 a0] H (.bool p.1) p.2 := by
 refine callSim (fn := f74) (ret := ret74) func74 rfl Tryz.ntmps74 rfl ?_ h
 unfold r74
 refine q_ (a_ (.bool false) rfl (n_ (m_ (.int .i64 a0) rfl (p_ rfl (s_geq rfl rfl) (m_ (.bool (decide (0 ≤ a0))) rfl ?_)))))
 refine o_if (fun h1 => ?_) (fun h1 => ?_)
 ·exact o_know 5 rfl (dec_true h1) (m_ (.int .i64 a0) rfl (p_ rfl (s_lss rfl rfl) (p_ rfl (s_pickT (v := .bool (decide (a0 < 16))) rfl rfl) (a_ (.bool (decide (a0 < 16))) rfl (f_nil (f_ret (.tmp rfl (.nil)) rfl))))))
 ·exact o_know 5 rfl (dec_false h1) (no_ rfl (no_ rfl (p_ rfl (s_pickF (v := .bool false) rfl rfl) (a_ (.bool false) rfl (f_nil (f_ret (.tmp rfl (.nil)) rfl))))))

/- 122 congou/sketch.isStream$1 -/
theorem ok122 : FnOk prog 122 := ⟨⟨f122, func122, by kernel_rfl, rfl⟩⟩
theorem sim122 {a0 : Int} {H : Hp} {p : Bool × Hp} (h : r122 a0 H = some p) : CallSim prog 122 [.int .i64 a0] H (.bool p.1) p.2 := by
 refine callSim (fn := f122) (ret := ret122) func122 rfl Tryz.ntmps122 rfl ?_ h
 unfold r122
 exact q_ (a_ (.bool false) rfl (n_ (m_ (.int .i64 a0) rfl (o_bind fun p1 hp1 => p_ rfl (s_callF rfl ok74 (sim74 hp1)) (p_ rfl (s_not rfl) (a_ (.bool (!p1.1)) rfl (f_nil (f_ret (.tmp rfl (.nil)) rfl))))))))

/- 69 congou/sketch.isStream -/
theorem ok69 : FnOk prog 69 := ⟨⟨f69, func69, by kernel_rfl, rfl⟩⟩
theorem sim69 {app : App} (happ : AppSim prog app) {a0 : Sl} {H : Hp} {p : Bool × Hp} (h : r69 app a0 H = some p) : CallSim prog 69 [.sl a0] H (.bool p.1) p.2 := by
 refine callSim (fn := f69) (ret := ret69) func69 rfl Tryz.ntmps69 rfl ?_ h
 unfold r69
 refine q_ (a_ (.bool false) rfl (n_ (m_ (.sl a0) rfl (p_ rfl (s_lenS rfl underlying25 rfl) (p_ rfl (s_leq rfl rfl) (m_ (.bool (decide ((a0.len : Int) ≤ 40))) rfl ?_))))))
 refine o_if (fun h1 => ?_) (fun h1 => ?_)
 ·exact o_know 6 rfl (dec_true h1) (m_ (.sl a0) rfl (o_bind fun p2 hp2 => p_ rfl (s_callF rfl ok121 (sim121 happ hp2)) (p_ rfl (s_not rfl) (p_ rfl (s_pickT (v := .bool (!p2.1)) rfl rfl) (a_ (.bool (!p2.1)) rfl (f_nil (f_ret (.tmp rfl (.nil)) rfl)))))))
 ·exact o_know 6 rfl (dec_false h1) (no_ rfl (no_ rfl (no_ rfl (p_ rfl (s_pickF (v := .bool false) rfl rfl) (a_ (.bool false) rfl (f_nil (f_ret (.tmp rfl (.nil)) rfl)))))))

/- 70 congou/sketch.often -/
theorem ok70 : FnOk prog 70 := ⟨⟨f70, func70, by kernel_rfl, rfl⟩⟩
theorem s70_l0 : ∀ (k_ v1 v2 : Nat) (v3 : Sl) (v4 v5 : Int) (H : Hp), Fin prog f70 ret70 19 (todoAt (bodyOf f70) [1, 1, 0, 1, 0, 0] []) [(2, .ptr v1 0), (3, .ptr v2 0), (6, .sl v3), (7, .int .i64 v4), (8, .int .i64 v5)] H (r70_l0 k_ v1 v2 v3 v4 v5 H) := by
 intro k_
 induction k_ with
 | zero => intro _ _ _ _ _ _; exact f_none
 | succ k_ ih =>
  intro v1 v2 v3 v4 v5 H
  rw [r70_l0]
  refine q_ (p_ rfl (s_lss rfl rfl) (f_nil (f_seq ?_)))
  refine f_if (fun h1 => ?_) (fun h1 => ?_)
  ·refine kT 9 h1 rfl (f_skip (f_seq (f_block (q_ (o_ck fun g2 => p_ rfl (s_idx underlying25 ty3 rfl rfl g2) (o_bind fun x3 hx3 => p_ rfl (s_load underlying3 rfl rfl (ldI_eq hx3)) (a_ (.int .i64 x3) rfl (f_nil (f_region (m_ (.int .i64 x3) rfl (o_ck fun g4 => ?_)))))))))))
   refine p_ rfl (s_idxA underlying123 ty3 rfl rfl g4) (o_bind fun x5 hx5 => p_ rfl (s_load underlying3 rfl rfl (ldI_eq hx5)) (p_ rfl (s_add rfl rfl) (o_ck fun g6 => p_ rfl (s_idxA underlying123 ty3 rfl rfl g6) (o_bind fun H7 hH7 => p_ rfl (s_store (s := 1) ty3 rfl rfl rfl hH7) (f_nil (f_inBlock (f_region (p_ rfl (s_add rfl rfl) (m_ (.int .i64 (w64 (v5 + 1))) rfl (f_nil (f_inLoop (f_keep [2, 3, 6, 7, 8] ?_))))))))))))
   exact ih v1 v2 v3 v4 (w64 (v5 + 1)) H7
  ·refine kF 9 h1 rfl (f_exit rfl (q_ (o_bind fun x8 hx8 => o_bind fun x9 hx9 => o_bind fun x10 hx10 => o_bind fun x11 hx11 => o_bind fun x12 hx12 => o_bind fun x13 hx13 => o_bind fun x14 hx14 => o_bind fun x15 hx15 => o_bind fun x16 hx16 => o_bind fun x17 hx17 => o_bind fun x18 hx18 => ?_)))
   refine o_bind fun x19 hx19 => o_bind fun x20 hx20 => o_bind fun x21 hx21 => o_bind fun x22 hx22 => o_bind fun x23 hx23 => p_ rfl (s_loads underlying123 rfl ty123 rfl (lds_cons (ldI_eq hx8) (lds_cons (ldI_eq hx9) (lds_cons (ldI_eq hx10) (lds_cons (ldI_eq hx11) (lds_cons (ldI_eq hx12) (lds_cons (ldI_eq hx13) (lds_cons (ldI_eq hx14) (lds_cons (ldI_eq hx15) (lds_cons (ldI_eq hx16) (lds_cons (ldI_eq hx17) (lds_cons (ldI_eq hx18) (lds_cons (ldI_eq hx19) (lds_cons (ldI_eq hx20) (lds_cons (ldI_eq hx21) (lds_cons (ldI_eq hx22) (lds_cons (ldI_eq hx23) (lds_nil)))))))))))))))))) (o_bind fun H24 hH24 => p_ rfl (s_stores ty123 rfl rfl rfl rfl hH24 (Nat.le_of_eq (sts_mono hH24).symm)) (f_nil (f_bind fun x25 hx25 => f_bind fun x26 hx26 => f_bind fun x27 hx27 => f_bind fun x28 hx28 => f_bind fun x29 hx29 => f_bind fun x30 hx30 => f_bind fun x31 hx31 => ?_)))
   exact f_bind fun x32 hx32 => f_bind fun x33 hx33 => f_bind fun x34 hx34 => f_bind fun x35 hx35 => f_bind fun x36 hx36 => f_bind fun x37 hx37 => f_bind fun x38 hx38 => f_bind fun x39 hx39 => f_bind fun x40 hx40 => f_ret (.cells underlying123 rfl sz123 rfl (lds_cons (ldI_eq hx25) (lds_cons (ldI_eq hx26) (lds_cons (ldI_eq hx27) (lds_cons (ldI_eq hx28) (lds_cons (ldI_eq hx29) (lds_cons (ldI_eq hx30) (lds_cons (ldI_eq hx31) (lds_cons (ldI_eq hx32) (lds_cons (ldI_eq hx33) (lds_cons (ldI_eq hx34) (lds_cons (ldI_eq hx35) (lds_cons (ldI_eq hx36) (lds_cons (ldI_eq hx37) (lds_cons (ldI_eq hx38) (lds_cons (ldI_eq hx39) (lds_cons (ldI_eq hx40) (lds_nil))))))))))))))))) (.nil)) rfl

theorem sim70 {a0 : Sl} {H : Hp} {p : (Int × Int × Int × Int × Int × Int × Int × Int × Int × Int × Int × Int × Int × Int × Int × Int) × Hp} (h : r70 a0 H = some p) : CallSim prog 70 [.sl a0] H (.agg [.int .i64 p.1.1, .int .i64 p.1.2.1, .int .i64 p.1.2.2.1, .int .i64 p.1.2.2.2.1, .int .i64 p.1.2.2.2.2.1, .int .i64 p.1.2.2.2.2.2.1, .int .i64 p.1.2.2.2.2.2.2.1, .int .i64 p.1.2.2.2.2.2.2.2.1, .int .i64 p.1.2.2.2.2.2.2.2.2.1, .int .i64 p.1.2.2.2.2.2.2.2.2.2.1, .int .i64 p.1.2.2.2.2.2.2.2.2.2.2.1, .int .i64 p.1.2.2.2.2.2.2.2.2.2.2.2.1, .int .i64 p.1.2.2.2.2.2.2.2.2.2.2.2.2.1, .int .i64 p.1.2.2.2.2.2.2.2.2.2.2.2.2.2.1, .int .i64 p.1.2.2.2.2.2.2.2.2.2.2.2.2.2.2.1, .int .i64 p.1.2.2.2.2.2.2.2.2.2.2.2.2.2.2.2]) p.2 := by
 refine callSim (fn := f70) (ret := ret70) func70 rfl Tryz.ntmps70 rfl ?_ h
 unfold r70
 refine q_ (p_ rfl (s_alloc (zs := [.int .i64 0, .int .i64 0, .int .i64 0, .int .i64 0, .int .i64 0, .int .i64 0, .int .i64 0, .int .i64 0, .int .i64 0, .int .i64 0, .int .i64 0, .int .i64 0, .int .i64 0, .int .i64 0, .int .i64 0, .int .i64 0]) ty123 rfl rfl) (o_hp fun H1 hH1 => n_ (p_ rfl (s_alloc (zs := [.int .i64 0, .int .i64 0, .int .i64 0, .int .i64 0, .int .i64 0, .int .i64 0, .int .i64 0, .int .i64 0, .int .i64 0, .int .i64 0, .int .i64 0, .int .i64 0, .int .i64 0, .int .i64 0, .int .i64 0, .int .i64 0]) ty123 rfl rfl) (o_hp fun H2 hH2 => f_nil (f_seq (q_ (m_ (.sl a0) rfl (p_ rfl (s_lenS rfl underlying25 rfl) (m_ (.int .i64 0) rfl ?_)))))))))
 exact f_nil (f_block (f_loop (f_keep [2, 3, 6, 7, 8] (s70_l0 FUEL H.n H1.n a0 (a0.len : Int) 0 H2))))

/- 25 congou/sketch.Heavy -/
theorem ok25 : FnOk prog 25 := ⟨⟨f25, func25, by kernel_rfl, rfl⟩⟩
theorem s25_l0 {app : App} (happ : AppSim prog app) : ∀ (k_ : Nat) (v1 : Int) (v2 v3 : Sl) (v4 v5 v6 v7 v8 v9 v10 v11 v12 v13 v14 v15 v16 v17 v18 v19 v20 : Int) (H : Hp), Fin prog f25 ret25 36 (todoAt (bodyOf f25) [1, 1, 1, 0, 1, 0, 0] []) [(0, .int .i64 v1), (1, .sl v2), (6, .sl v3), (18, .agg [.int .i64 v4, .int .i64 v5, .int .i64 v6, .int .i64 v7, .int .i64 v8, .int .i64 v9, .int .i64 v10, .int .i64 v11, .int .i64 v12, .int .i64 v13, .int .i64 v14, .int .i64 v15, .int .i64 v16, .int .i64 v17, .int .i64 v18, .int .i64 v19]), (19, .int .i64 v20)] H (r25_l0 app k_ v1 v2 v3 v4 v5 v6 v7 v8 v9 v10 v11 v12 v13 v14 v15 v16 v17 v18 v19 v20 H) := by
 intro k_
 induction k_ with
 | zero => intro _ _ _ _ _ _ _ _ _ _ _ _ _ _ _ _ _ _ _ _ _; exact f_none
 | succ k_ ih =>
  intro v1 v2 v3 v4 v5 v6 v7 v8 v9 v10 v11 v12 v13 v14 v15 v16 v17 v18 v19 v20 H
  rw [r25_l0]
  refine q_ (p_ rfl (s_lss rfl rfl) (f_nil (f_seq ?_)))
  refine f_if (fun h1 => ?_) (fun h1 => ?_)
  ·refine kT 20 h1 rfl (f_skip (f_seq (f_block (q_ (m_ (.int .i64 v20) rfl (o_ck fun g2 => o_bind fun x3 hx3 => o_bind fun x4 hx4 => p_ rfl (s_index underlying123 underlying3 ty3 rfl rfl g2 hx3) (o_know 22 rfl (asI_eq hx4) (a_ (.int .i64 v20) rfl (a_ (.int .i64 x4) rfl (f_nil ?_))))))))))
   refine q_ (m_ (.int .i64 x4) rfl (m_ (.int .i64 v1) rfl (p_ rfl (s_add rfl rfl) (p_ rfl (s_mul rfl rfl) (m_ (.sl v2) rfl (p_ rfl (s_lenS rfl underlying25 rfl) (p_ rfl (s_gtr rfl rfl) (f_nil ?_))))))))
   refine f_if (fun h5 => ?_) (fun h5 => ?_)
   ·refine kT 29 h5 rfl (f_region (m_ (.sl v3) rfl (m_ (.int .i64 v20) rfl (p_ rfl (s_buildSlice (cs := [.int .i64 v20]) underlying25 ty3 (by decide) (by decide) rfl (by decide) rfl) (o_bind fun x6 hx6 => p_ rfl (s_ap rfl rfl underlying25 underlying25 ty3 rfl rfl rfl rfl rfl rfl rfl hx6) (a_ (.sl x6.1) rfl (f_nil (f_inBlock (f_region (p_ rfl (s_add rfl rfl) (m_ (.int .i64 (w64 (v20 + 1))) rfl (f_nil (f_inLoop ?_)))))))))))))
    exact f_keep [0, 1, 6, 18, 19] (ih v1 v2 x6.1 v4 v5 v6 v7 v8 v9 v10 v11 v12 v13 v14 v15 v16 v17 v18 v19 (w64 (v20 + 1)) x6.2)
   ·exact kF 29 h5 rfl (f_skip (f_inBlock (f_region (p_ rfl (s_add rfl rfl) (m_ (.int .i64 (w64 (v20 + 1))) rfl (f_nil (f_inLoop (f_keep [0, 1, 6, 18, 19] (ih v1 v2 v3 v4 v5 v6 v7 v8 v9 v10 v11 v12 v13 v14 v15 v16 v17 v18 v19 (w64 (v20 + 1)) H)))))))))
  ·exact kF 20 h1 rfl (f_exit rfl (q_ (m_ (.sl v3) rfl (a_ (.sl v3) rfl (a_ (.int .i64 0) rfl (f_nil (f_ret (.tmp rfl (.tmp rfl (.nil))) rfl)))))))

theorem s25_j1 {app : App} (happ : AppSim prog app) (v1 : Int) (v2 : Sl) (v3 : Bool) (H : Hp) : Fin prog f25 ret25 36 (todoAt (bodyOf f25) [1, 0, 1] []) [(0, .int .i64 v1), (1, .sl v2), (16, .bool v3)] H (r25_j1 app v1 v2 v3 H) := by
 unfold r25_j1
 refine f_if (fun h1 => ?_) (fun h1 => ?_)
 ·exact bT 16 h1 rfl (q_ (a_ (.sl ⟨true, 0, 0, 0, 0, 0⟩) rfl (a_ (.int .i64 2) rfl (f_nil (f_ret (.tmp rfl (.tmp rfl (.nil))) rfl)))))
 ·refine bF 16 h1 rfl (f_skip (q_ (a_ (.sl ⟨true, 0, 0, 0, 0, 0⟩) rfl (f_nil (f_seq (q_ (m_ (.sl v2) rfl (o_bind fun p2 hp2 => p_ rfl (s_callF rfl ok70 (sim70 hp2)) (m_ (.int .i64 0) rfl (f_nil (f_block ?_)))))))))))
  exact f_loop (f_keep [0, 1, 6, 18, 19] (s25_l0 happ FUEL v1 v2 ⟨true, 0, 0, 0, 0, 0⟩ p2.1.1 p2.1.2.1 p2.1.2.2.1 p2.1.2.2.2.1 p2.1.2.2.2.2.1 p2.1.2.2.2.2.2.1 p2.1.2.2.2.2.2.2.1 p2.1.2.2.2.2.2.2.2.1 p2.1.2.2.2.2.2.2.2.2.1 p2.1.2.2.2.2.2.2.2.2.2.1 p2.1.2.2.2.2.2.2.2.2.2.2.1 p2.1.2.2.2.2.2.2.2.2.2.2.2.1 p2.1.2.2.2.2.2.2.2.2.2.2.2.2.1 p2.1.2.2.2.2.2.2.2.2.2.2.2.2.2.1 p2.1.2.2.2.2.2.2.2.2.2.2.2.2.2.2.1 p2.1.2.2.2.2.2.2.2.2.2.2.2.2.2.2.2 0 p2.2))

theorem sim25 {app : App} (happ : AppSim prog app) {a0 : Int} {a1 : Sl} {H : Hp} {p : (Sl × Int) × Hp} (h : r25 app a0 a1 H = some p) : CallSim prog 25 [.int .i64 a0, .sl a1] H (.tup [.sl p.1.1, .int .i64 p.1.2]) p.2 := by
 refine callSim (fn := f25) (ret := ret25) func25 rfl Tryz.ntmps25 rfl ?_ h
 unfold r25
 refine q_ (a_ (.sl ⟨true, 0, 0, 0, 0, 0⟩) rfl (a_ (.int .i64 0) rfl (f_nil (f_seq (q_ (m_ (.int .i64 a0) rfl (o_bind fun p1 hp1 => p_ rfl (s_callF rfl ok68 (sim68 hp1)) (p_ rfl (s_not rfl) (m_ (.bool (!p1.1)) rfl ?_)))))))))
 refine o_if (fun h2 => ?_) (fun h2 => ?_)
 ·exact o_know 12 rfl (bool_notT h2) (m_ (.sl a1) rfl (o_bind fun p3 hp3 => p_ rfl (s_callF rfl ok69 (sim69 happ hp3)) (p_ rfl (s_not rfl) (p_ rfl (s_pickF (v := .bool (!p3.1)) rfl rfl) (f_nil (f_keep [0, 1, 16] (s25_j1 happ a0 a1 (!p3.1) p3.2)))))))
 ·exact o_know 12 rfl (bool_notF h2) (no_ rfl (no_ rfl (no_ rfl (p_ rfl (s_pickT (v := .bool true) rfl rfl) (f_nil (f_keep [0, 1, 16] (s25_j1 happ a0 a1 true p1.2)))))))

/- 73 slices.IndexFunc[[]congou/sketch.Count,congou/sketch.Count] -/
theorem ok73 : FnOk prog 73 := ⟨⟨f73, func73, by kernel_rfl, rfl⟩⟩
theorem s73_l0 {app : App} (happ : AppSim prog app) : ∀ (k_ : Nat) (v1 : Sl) (v2 : AV) (v3 v4 : Int) (H : Hp), Fin prog f73 ret73 19 (todoAt (bodyOf f73) [1, 0, 1, 0, 0] []) [(0, .sl v1), (1, v2), (7, .int .i64 v3), (8, .int .i64 v4)] H (r73_l0 app k_ v1 v2 v3 v4 H) := by
 intro k_
 induction k_ with
 | zero => intro _ _ _ _ _; exact f_none
 | succ k_ ih =>
  intro v1 v2 v3 v4 H
  rw [r73_l0]
  refine q_ (p_ rfl (s_lss rfl rfl) (f_nil (f_seq ?_)))
  refine f_if (fun h1 => ?_) (fun h1 => ?_)
  ·refine kT 9 h1 rfl (f_skip (f_seq (f_block (q_ (m_ (.int .i64 v4) rfl (a_ (.int .i64 v4) rfl (n_ (m_ v2 rfl (m_ (.sl v1) rfl (m_ (.int .i64 v4) rfl (o_ck fun g2 => ?_)))))))))))
   refine p_ rfl (s_idx underlying58 ty63 rfl rfl g2) (o_bind fun x3 hx3 => o_bind fun x4 hx4 => o_bind fun x5 hx5 => p_ rfl (s_loads underlying63 rfl ty63 rfl (lds_cons (ldI_eq hx3) (lds_cons (ldI_eq hx4) (lds_cons (ldI_eq hx5) (lds_nil))))) (o_bind fun p6 hp6 => o_bind fun x7 hx7 => p_ rfl (s_callv happ rfl rfl hp6) (o_know 16 rfl (asB_eq hx7) (f_nil ?_))))
   refine f_if (fun h8 => ?_) (fun h8 => ?_)
   ·exact bT 16 h8 rfl (q_ (m_ (.int .i64 v4) rfl (a_ (.int .i64 v4) rfl (f_nil (f_ret (.tmp rfl (.nil)) rfl)))))
   ·exact bF 16 h8 rfl (f_skip (f_inBlock (f_region (p_ rfl (s_add rfl rfl) (m_ (.int .i64 (w64 (v4 + 1))) rfl (f_nil (f_inLoop (f_keep [0, 1, 7, 8] (ih v1 v2 v3 (w64 (v4 + 1)) p6.2)))))))))
  ·exact kF 9 h1 rfl (f_exit rfl (q_ (a_ (.int .i64 (-1)) rfl (f_nil (f_ret (.tmp rfl (.nil)) rfl)))))

theorem sim73 {app : App} (happ : AppSim prog app) {a0 : Sl} {a1 : AV} {H : Hp} {p : Int × Hp} (h : r73 app a0 a1 H = some p) : CallSim prog 73 [.sl a0, a1] H (.int .i64 p.1) p.2 := by
 refine callSim (fn := f73) (ret := ret73) func73 rfl Tryz.ntmps73 rfl ?_ h
 unfold r73
 exact q_ (a_ (.int .i64 0) rfl (f_nil (f_seq (q_ (m_ (.sl a0) rfl (p_ rfl (s_lenS rfl underlying58 rfl) (m_ (.int .i64 0) rfl (f_nil (f_block (f_loop (f_keep [0, 1, 7, 8] (s73_l0 happ FUEL a0 a1 (a0.len : Int) 0 H))))))))))))

end Go.Lt.P10
