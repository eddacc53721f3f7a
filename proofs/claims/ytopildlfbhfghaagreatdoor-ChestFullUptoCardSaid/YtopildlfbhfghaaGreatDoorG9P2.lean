/- PRINTED BY A PROGRAM OF OURS: what each function that 'ChestFull' reaches computes on the abstract heap, and that the translated code does just that. Nothing is asked of the input. -/
import Derived.Test.YtopildlfbhfghaaGreatDoorG9P1
set_option linter.unusedVariables false
set_option linter.unusedSimpArgs false
set_option maxRecDepth 100000
set_option maxHeartbeats 4000000
namespace Go.Lt.P10
open Go Go.Lt Go.Proofs Go.Proofs.Tryz
/- 62 (*congou/chest.state).ask -/
theorem ok62 : FnOk prog 62 := ⟨⟨f62, func62, by kernel_rfl, rfl⟩⟩
theorem s62_j0 {app : App} (happ : AppSim prog app) (v1 v2 v3 : ByteArray) (v4 : AV) (H : Hp) : Fin prog f62 ret62 74 (todoAt (bodyOf f62) [1, 1, 1, 1] []) [(1, .str v1), (6, .str v2), (9, .str v3), (10, v4)] H (r62_j0 app v1 v2 v3 v4 H) := by
  unfold r62_j0
  refine q_ (m_ (.str v3) rfl (m_ (.str v1) rfl (o_bind fun p1 hp1 => p_ rfl (s_callF rfl ok108 (sim108 happ hp1)) (m_ (.tup [.agg [.sl p1.1.1, .sl p1.1.2.1], .bool p1.1.2.2]) rfl (p_ rfl (s_extract (r := .agg [.sl p1.1.1, .sl p1.1.2.1]) rfl rfl) (p_ rfl (s_extract (r := .bool p1.1.2.2) rfl rfl) (p_ rfl (s_alloc (zs := [.sl ⟨true, 0, 0, 0, 0, 0⟩, .sl ⟨true, 0, 0, 0, 0, 0⟩]) ty167 rfl rfl) (o_bind fun H2 hH2 => p_ rfl (s_stores ty167 rfl rfl rfl rfl hH2 (Nat.le_of_eq (sts_mono hH2).symm)) (a_ (.bool p1.1.2.2) rfl (f_nil (f_seq (f_seq ?_))))))))))))
  refine f_region (m_ (.bool p1.1.2.2) rfl (p_ rfl (s_not rfl) (f_nil ?_)))
  refine f_if (fun h3 => ?_) (fun h3 => ?_)
  · refine f_know 59 rfl (bool_notT h3) (f_condF rfl (f_skip (q_ (m_ v4 rfl (o_bind fun x4 hx4 => o_bind fun x5 hx5 => p_ rfl (s_loads underlying167 rfl ty167 rfl (lds_cons (ldSl_eq hx4) (lds_cons (ldSl_eq hx5) (lds_nil)))) (o_bind fun p6 hp6 => o_bind fun x7 hx7 => o_ck fun g8 => o_bind fun x9 hx9 => o_bind fun x10 hx10 => o_bind fun x11 hx11 => o_bind fun x12 hx12 => ?_))))))
    refine p_ rfl (s_callv happ rfl rfl hp6) (o_know 63 rfl (tupOf2 hx7 g8 (gete hx9 (asSl_eq hx10)) (gete hx11 (asI_eq hx12))) (m_ (.tup [.sl x10, .int .i64 x12]) rfl (p_ rfl (s_extract (r := .sl x10) rfl rfl) (p_ rfl (s_extract (r := .int .i64 x12) rfl rfl) (a_ (.sl x10) rfl (a_ (.int .i64 x12) rfl (f_nil (f_seq (q_ (m_ (.int .i64 x12) rfl (p_ rfl (s_neq rfl rfl) (f_nil ?_))))))))))))
    refine f_if (fun h13 => ?_) (fun h13 => ?_)
    · exact kT 67 h13 rfl (q_ (m_ (.int .i64 x12) rfl (a_ (.str (ByteArray.mk #[])) rfl (a_ (.int .i64 x12) rfl (f_nil (f_ret (.tmp rfl (.tmp rfl (.nil))) rfl))))))
    · refine kF 67 h13 rfl (f_skip (q_ (m_ (.str v2) rfl (p_ rfl (s_buildSlice (cs := [.str v2]) underlying22 ty9 (by decide) (by decide) rfl (by decide) rfl) (m_ (.sl x10) rfl (o_bind fun x14 hx14 => o_ck fun g15 => o_bind fun x16 hx16 => p_ rfl (s_append rfl rfl underlying22 underlying22 ty9 (by decide) rfl (by decide) rfl rfl hx14 g15 hx16) (o_bind fun p17 hp17 => o_bind fun x18 hx18 => p_ rfl (s_callA happ rfl hp17) (o_know 73 rfl (asStr_eq hx18) ?_))))))))
      exact a_ (.str x18) rfl (a_ (.int .i64 0) rfl (f_nil (f_ret (.tmp rfl (.tmp rfl (.nil))) rfl)))
  · exact f_know 59 rfl (bool_notF h3) (f_condT rfl (q_ (a_ (.str (ByteArray.mk #[])) rfl (a_ (.int .i64 3) rfl (f_nil (f_ret (.tmp rfl (.tmp rfl (.nil))) rfl))))))

theorem sim62 {app : App} (happ : AppSim prog app) {a0b : Nat} {a0o : Nat} {a1 : ByteArray} {H : Hp} {p : (ByteArray × Int) × Hp} (h : r62 app a0b a0o a1 H = some p) : CallSim prog 62 [.ptr a0b a0o, .str a1] H (.tup [.str p.1.1, .int .i64 p.1.2]) p.2 := by
  refine callSim (fn := f62) (ret := ret62) func62 rfl Tryz.ntmps62 rfl ?_ h
  unfold r62
  refine q_ (a_ (.str (ByteArray.mk #[])) rfl (a_ (.int .i64 0) rfl (n_ (m_ (.str a1) rfl (o_bind fun p1 hp1 => p_ rfl (s_callF rfl ok97 (sim97 hp1)) (m_ (.tup [.str p1.1.1, .str p1.1.2.1, .bool p1.1.2.2]) rfl (p_ rfl (s_extract (r := .str p1.1.1) rfl rfl) (p_ rfl (s_extract (r := .str p1.1.2.1) rfl rfl) (p_ rfl (s_extract (r := .bool p1.1.2.2) rfl rfl) (a_ (.str p1.1.1) rfl (a_ (.str p1.1.2.1) rfl ?_)))))))))))
  refine a_ (.bool p1.1.2.2) rfl (n_ (m_ (.ptr a0b a0o) rfl (p_ rfl (s_makeFunc rfl rfl) (a_ (.str (ByteArray.mk #[])) rfl (a_ (.fn 98 [.ptr a0b a0o] []) rfl (f_nil (f_seq (q_ (m_ (.str p1.1.1) rfl (f_nil (f_block (f_seq ?_))))))))))))
  refine f_region (p_ rfl (s_eqStr rfl rfl) (a_ (.bool (strEq p1.1.1 (ByteArray.mk #[103, 97, 112]))) rfl (f_nil ?_)))
  refine f_if (fun h2 => ?_) (fun h2 => ?_)
  · exact bT 24 h2 rfl (f_skip (f_inBlock (f_keep [1, 6, 9, 10] (s62_j0 happ a1 p1.1.1 (ByteArray.mk #[]) (.fn 98 [.ptr a0b a0o] []) p1.2))))
  · refine bF 24 h2 rfl (q_ (p_ rfl (s_eqStr rfl rfl) (a_ (.bool (strEq p1.1.1 (ByteArray.mk #[104, 101, 97, 118, 121]))) rfl (f_nil ?_))))
    refine f_if (fun h3 => ?_) (fun h3 => ?_)
    · exact bT 26 h3 rfl (f_region (m_ (.ptr a0b a0o) rfl (p_ rfl (s_makeFunc rfl rfl) (a_ (.str (ByteArray.mk #[100])) rfl (a_ (.fn 99 [.ptr a0b a0o] []) rfl (f_nil (f_inBlock (f_keep [1, 6, 9, 10] (s62_j0 happ a1 p1.1.1 (ByteArray.mk #[100]) (.fn 99 [.ptr a0b a0o] []) p1.2)))))))))
    · refine bF 26 h3 rfl (q_ (p_ rfl (s_eqStr rfl rfl) (a_ (.bool (strEq p1.1.1 (ByteArray.mk #[111, 102, 116, 101, 110]))) rfl (f_nil ?_))))
      refine f_if (fun h4 => ?_) (fun h4 => ?_)
      · exact bT 30 h4 rfl (f_region (m_ (.ptr a0b a0o) rfl (p_ rfl (s_makeFunc rfl rfl) (a_ (.str (ByteArray.mk #[110])) rfl (a_ (.fn 100 [.ptr a0b a0o] []) rfl (f_nil (f_inBlock (f_keep [1, 6, 9, 10] (s62_j0 happ a1 p1.1.1 (ByteArray.mk #[110]) (.fn 100 [.ptr a0b a0o] []) p1.2)))))))))
      · refine bF 30 h4 rfl (q_ (p_ rfl (s_eqStr rfl rfl) (a_ (.bool (strEq p1.1.1 (ByteArray.mk #[116, 97, 105, 108]))) rfl (f_nil ?_))))
        refine f_if (fun h5 => ?_) (fun h5 => ?_)
        · exact bT 34 h5 rfl (f_region (m_ (.ptr a0b a0o) rfl (p_ rfl (s_makeFunc rfl rfl) (a_ (.fn 101 [.ptr a0b a0o] []) rfl (f_nil (f_inBlock (f_keep [1, 6, 9, 10] (s62_j0 happ a1 p1.1.1 (ByteArray.mk #[]) (.fn 101 [.ptr a0b a0o] []) p1.2))))))))
        · refine bF 34 h5 rfl (q_ (p_ rfl (s_eqStr rfl rfl) (a_ (.bool (strEq p1.1.1 (ByteArray.mk #[102, 97, 105, 114]))) rfl (f_nil ?_))))
          refine f_if (fun h6 => ?_) (fun h6 => ?_)
          · exact bT 38 h6 rfl (f_region (m_ (.ptr a0b a0o) rfl (p_ rfl (s_makeFunc rfl rfl) (a_ (.str (ByteArray.mk #[100, 100])) rfl (a_ (.fn 102 [.ptr a0b a0o] []) rfl (f_nil (f_inBlock (f_keep [1, 6, 9, 10] (s62_j0 happ a1 p1.1.1 (ByteArray.mk #[100, 100]) (.fn 102 [.ptr a0b a0o] []) p1.2)))))))))
          · refine bF 38 h6 rfl (q_ (p_ rfl (s_eqStr rfl rfl) (a_ (.bool (strEq p1.1.1 (ByteArray.mk #[114, 111, 117, 110, 100]))) rfl (f_nil ?_))))
            refine f_if (fun h7 => ?_) (fun h7 => ?_)
            · exact bT 42 h7 rfl (f_region (a_ (.str (ByteArray.mk #[100])) rfl (a_ (.fn 103 [] []) rfl (f_nil (f_inBlock (f_keep [1, 6, 9, 10] (s62_j0 happ a1 p1.1.1 (ByteArray.mk #[100]) (.fn 103 [] []) p1.2)))))))
            · refine bF 42 h7 rfl (q_ (p_ rfl (s_eqStr rfl rfl) (a_ (.bool (strEq p1.1.1 (ByteArray.mk #[99, 117, 114, 118, 101]))) rfl (f_nil ?_))))
              refine f_if (fun h8 => ?_) (fun h8 => ?_)
              · exact bT 44 h8 rfl (f_region (a_ (.str (ByteArray.mk #[100])) rfl (a_ (.fn 104 [] []) rfl (f_nil (f_inBlock (f_keep [1, 6, 9, 10] (s62_j0 happ a1 p1.1.1 (ByteArray.mk #[100]) (.fn 104 [] []) p1.2)))))))
              · refine bF 44 h8 rfl (q_ (p_ rfl (s_eqStr rfl rfl) (a_ (.bool (strEq p1.1.1 (ByteArray.mk #[115, 113, 117, 97, 114, 101]))) rfl (f_nil ?_))))
                refine f_if (fun h9 => ?_) (fun h9 => ?_)
                · exact bT 46 h9 rfl (f_region (a_ (.str (ByteArray.mk #[100, 100, 100, 100])) rfl (a_ (.fn 105 [] []) rfl (f_nil (f_inBlock (f_keep [1, 6, 9, 10] (s62_j0 happ a1 p1.1.1 (ByteArray.mk #[100, 100, 100, 100]) (.fn 105 [] []) p1.2)))))))
                · refine bF 46 h9 rfl (q_ (p_ rfl (s_eqStr rfl rfl) (a_ (.bool (strEq p1.1.1 (ByteArray.mk #[114, 111, 119]))) rfl (f_nil ?_))))
                  refine f_if (fun h10 => ?_) (fun h10 => ?_)
                  · exact bT 48 h10 rfl (f_region (a_ (.str (ByteArray.mk #[100, 100])) rfl (a_ (.fn 106 [] []) rfl (f_nil (f_inBlock (f_keep [1, 6, 9, 10] (s62_j0 happ a1 p1.1.1 (ByteArray.mk #[100, 100]) (.fn 106 [] []) p1.2)))))))
                  · refine bF 48 h10 rfl (q_ (p_ rfl (s_eqStr rfl rfl) (a_ (.bool (strEq p1.1.1 (ByteArray.mk #[108, 101, 97, 115, 116]))) rfl (f_nil ?_))))
                    refine f_if (fun h11 => ?_) (fun h11 => ?_)
                    · exact bT 50 h11 rfl (f_region (a_ (.str (ByteArray.mk #[100])) rfl (a_ (.fn 107 [] []) rfl (f_nil (f_inBlock (f_keep [1, 6, 9, 10] (s62_j0 happ a1 p1.1.1 (ByteArray.mk #[100]) (.fn 107 [] []) p1.2)))))))
                    · exact bF 50 h11 rfl (q_ (a_ (.str (ByteArray.mk #[])) rfl (a_ (.int .i64 3) rfl (f_nil (f_ret (.tmp rfl (.tmp rfl (.nil))) rfl)))))

/- 14 (*congou/chest.Chest).Ask -/
theorem ok14 : FnOk prog 14 := ⟨⟨f14, func14, by kernel_rfl, rfl⟩⟩
theorem sim14 {app : App} (happ : AppSim prog app) {a0b : Nat} {a0o : Nat} {a1 : ByteArray} {H : Hp} {p : (ByteArray × Int) × Hp} (h : r14 app a0b a0o a1 H = some p) : CallSim prog 14 [.ptr a0b a0o, .str a1] H (.tup [.str p.1.1, .int .i64 p.1.2]) p.2 := by
  refine callSim (fn := f14) (ret := ret14) func14 rfl Tryz.ntmps14 rfl ?_ h
  unfold r14
  refine q_ (a_ (.str (ByteArray.mk #[])) rfl (a_ (.int .i64 0) rfl (f_nil (f_seq (q_ (m_ (.ptr a0b a0o) rfl (o_bind fun p1 hp1 => p_ rfl (s_callF rfl ok60 (sim60 hp1)) (f_nil ?_))))))))
  refine f_if (fun h2 => ?_) (fun h2 => ?_)
  · exact bT 7 h2 rfl (q_ (a_ (.str (ByteArray.mk #[])) rfl (a_ (.int .i64 1) rfl (f_nil (f_ret (.tmp rfl (.tmp rfl (.nil))) rfl)))))
  · refine bF 7 h2 rfl (f_skip (q_ (m_ (.ptr a0b a0o) rfl (o_bind fun p3 hp3 => p_ rfl (s_callF rfl ok61 (sim61 hp3)) (m_ (.str a1) rfl (o_bind fun p4 hp4 => p_ rfl (s_callF rfl ok62 (sim62 happ hp4)) (p_ rfl (s_extract (r := .str p4.1.1) rfl rfl) (p_ rfl (s_extract (r := .int .i64 p4.1.2) rfl rfl) (a_ (.str p4.1.1) rfl (a_ (.int .i64 p4.1.2) rfl (f_nil ?_)))))))))))
    exact f_ret (.tmp rfl (.tmp rfl (.nil))) rfl

/- 38 (*congou/chest.Chest).At -/
theorem ok38 : FnOk prog 38 := ⟨⟨f38, func38, by kernel_rfl, rfl⟩⟩
theorem sim38 {a0b : Nat} {a0o : Nat} {H : Hp} {p : Int × Hp} (h : r38 a0b a0o H = some p) : CallSim prog 38 [.ptr a0b a0o] H (.int .i64 p.1) p.2 := by
  refine callSim (fn := f38) (ret := ret38) func38 rfl Tryz.ntmps38 rfl ?_ h
  unfold r38
  refine q_ (a_ (.int .i64 0) rfl (f_nil (f_seq (q_ (m_ (.ptr a0b a0o) rfl (o_bind fun p1 hp1 => p_ rfl (s_callF rfl ok60 (sim60 hp1)) (f_nil ?_)))))))
  refine f_if (fun h2 => ?_) (fun h2 => ?_)
  · exact bT 4 h2 rfl (q_ (a_ (.int .i64 0) rfl (f_nil (f_ret (.tmp rfl (.nil)) rfl))))
  · exact bF 4 h2 rfl (f_skip (q_ (m_ (.ptr a0b a0o) rfl (p_ rfl (s_nilCheck rfl) (p_ rfl (s_fieldAddr underlying118 rfl ty3 rfl) (o_bind fun x3 hx3 => p_ rfl (s_load underlying3 rfl rfl (ldI_eq hx3)) (a_ (.int .i64 x3) rfl (f_nil (f_ret (.tmp rfl (.nil)) rfl)))))))))

/- 47 congou/chest.New -/
theorem ok47 : FnOk prog 47 := ⟨⟨f47, func47, by kernel_rfl, rfl⟩⟩
theorem sim47 {H : Hp} {p : (Nat × Nat) × Hp} (h : r47 H = some p) : CallSim prog 47 [] H (.ptr p.1.1 p.1.2) p.2 := by
  refine callSim (fn := f47) (ret := ret47) func47 rfl Tryz.ntmps47 rfl ?_ h
  unfold r47
  exact q_ (a_ (.nilptr) rfl (n_ (p_ rfl (s_build (cs := [.sl ⟨true, 0, 0, 0, 0, 0⟩, .sl ⟨true, 0, 0, 0, 0, 0⟩, .int .i64 0, .int .i64 0, .int .i64 0, .int .i64 0, .sl ⟨true, 0, 0, 0, 0, 0⟩]) underlying150 ty150 rfl pl150 rfl) (p_ rfl (s_box (v := .agg [.sl ⟨true, 0, 0, 0, 0, 0⟩, .sl ⟨true, 0, 0, 0, 0, 0⟩, .int .i64 0, .int .i64 0, .int .i64 0, .int .i64 0, .sl ⟨true, 0, 0, 0, 0, 0⟩]) rfl rfl) (p_ rfl (s_build (cs := [.str (ByteArray.mk #[]), .int .i64 0, .ptr H.n 0]) underlying120 ty120 rfl pl120 rfl) (p_ rfl (s_buildSlice (cs := [.str (ByteArray.mk #[]), .int .i64 0, .ptr H.n 0]) underlying116 ty120 (by decide) (by decide) rfl (by decide) rfl) (p_ rfl (s_build (cs := [.sl ⟨false, (H.push (.cells [.sl ⟨true, 0, 0, 0, 0, 0⟩, .sl ⟨true, 0, 0, 0, 0, 0⟩, .int .i64 0, .int .i64 0, .int .i64 0, .int .i64 0, .sl ⟨true, 0, 0, 0, 0, 0⟩] false)).n, 0, 1, 1, 0⟩, .int .i64 0]) underlying118 ty118 rfl pl118 rfl) (p_ rfl (s_box (v := .agg [.sl ⟨false, (H.push (.cells [.sl ⟨true, 0, 0, 0, 0, 0⟩, .sl ⟨true, 0, 0, 0, 0, 0⟩, .int .i64 0, .int .i64 0, .int .i64 0, .int .i64 0, .sl ⟨true, 0, 0, 0, 0, 0⟩] false)).n, 0, 1, 1, 0⟩, .int .i64 0]) rfl rfl) (a_ (.ptr (((H.push (.cells [.sl ⟨true, 0, 0, 0, 0, 0⟩, .sl ⟨true, 0, 0, 0, 0, 0⟩, .int .i64 0, .int .i64 0, .int .i64 0, .int .i64 0, .sl ⟨true, 0, 0, 0, 0, 0⟩] false)).push (.cells [.str (ByteArray.mk #[]), .int .i64 0, .ptr H.n 0] false)).n) 0) rfl (o_hp fun H1 hH1 => f_nil (f_ret (.tmp rfl (.nil)) rfl)))))))))))

/- 34 congou/congoulaw10.awake -/
theorem ok34 : FnOk prog 34 := ⟨⟨f34, func34, by kernel_rfl, rfl⟩⟩
theorem sim34 {app : App} (happ : AppSim prog app) {H : Hp} {p : Bool × Hp} (h : r34 app H = some p) : CallSim prog 34 [] H (.bool p.1) p.2 := by
  refine callSim (fn := f34) (ret := ret34) func34 rfl Tryz.ntmps34 rfl ?_ h
  unfold r34
  refine q_ (a_ (.bool false) rfl (n_ (o_bind fun p1 hp1 => p_ rfl (s_callF rfl ok47 (sim47 hp1)) (a_ (.ptr p1.1.1 p1.1.2) rfl (n_ (m_ (.ptr p1.1.1 p1.1.2) rfl (o_bind fun p2 hp2 => p_ rfl (s_callF rfl ok20 (sim20 happ hp2)) (m_ (.tup [.str p2.1.1, .int .i64 p2.1.2]) rfl ?_))))))))
  refine p_ rfl (s_extract (r := .str p2.1.1) rfl rfl) (p_ rfl (s_extract (r := .int .i64 p2.1.2) rfl rfl) (a_ (.str p2.1.1) rfl (a_ (.int .i64 p2.1.2) rfl (n_ (m_ (.ptr p1.1.1 p1.1.2) rfl (o_bind fun p3 hp3 => p_ rfl (s_callF rfl ok14 (sim14 happ hp3)) (m_ (.tup [.str p3.1.1, .int .i64 p3.1.2]) rfl (p_ rfl (s_extract (r := .str p3.1.1) rfl rfl) (p_ rfl (s_extract (r := .int .i64 p3.1.2) rfl rfl) (a_ (.str p3.1.1) rfl (a_ (.int .i64 p3.1.2) rfl (f_nil ?_))))))))))))
  refine q_ (m_ (.int .i64 p2.1.2) rfl (p_ rfl (s_eql rfl rfl) (m_ (.bool (decide (p2.1.2 = 0))) rfl ?_)))
  refine o_if (fun h4 => ?_) (fun h4 => ?_)
  · refine o_know 19 rfl (dec_true h4) (m_ (.int .i64 p3.1.2) rfl (p_ rfl (s_eql rfl rfl) (p_ rfl (s_pickT (v := .bool (decide (p3.1.2 = 0))) rfl rfl) (m_ (.bool (decide (p3.1.2 = 0))) rfl ?_))))
    refine o_if (fun h5 => ?_) (fun h5 => ?_)
    · refine o_know 23 rfl (dec_true h5) (m_ (.str p2.1.1) rfl (p_ rfl (s_eqStr rfl rfl) (p_ rfl (s_pickT (v := .bool (strEq p2.1.1 (ByteArray.mk #[108, 101, 97, 102]))) rfl rfl) (m_ (.bool (strEq p2.1.1 (ByteArray.mk #[108, 101, 97, 102]))) rfl ?_))))
      refine o_if (fun h6 => ?_) (fun h6 => ?_)
      · refine o_know 27 rfl (bool_T h6) (m_ (.str p3.1.1) rfl (p_ rfl (s_eqStr rfl rfl) (p_ rfl (s_pickT (v := .bool (strEq p3.1.1 (ByteArray.mk #[103, 97, 112, 32, 48]))) rfl rfl) (m_ (.bool (strEq p3.1.1 (ByteArray.mk #[103, 97, 112, 32, 48]))) rfl ?_))))
        refine o_if (fun h7 => ?_) (fun h7 => ?_)
        · exact o_know 31 rfl (bool_T h7) (m_ (.ptr p1.1.1 p1.1.2) rfl (o_bind fun p8 hp8 => p_ rfl (s_callF rfl ok38 (sim38 hp8)) (p_ rfl (s_eql rfl rfl) (p_ rfl (s_pickT (v := .bool (decide (p8.1 = 1))) rfl rfl) (a_ (.bool (decide (p8.1 = 1))) rfl (f_nil (f_ret (.tmp rfl (.nil)) rfl)))))))
        · exact o_know 31 rfl (bool_F h7) (no_ rfl (no_ rfl (no_ rfl (p_ rfl (s_pickF (v := .bool false) rfl rfl) (a_ (.bool false) rfl (f_nil (f_ret (.tmp rfl (.nil)) rfl)))))))
      · exact o_know 27 rfl (bool_F h6) (no_ rfl (no_ rfl (p_ rfl (s_pickF (v := .bool false) rfl rfl) (m_ (.bool false) rfl (no_ rfl (no_ rfl (no_ rfl (p_ rfl (s_pickF (v := .bool false) rfl rfl) (a_ (.bool false) rfl (f_nil (f_ret (.tmp rfl (.nil)) rfl)))))))))))
    · exact o_know 23 rfl (dec_false h5) (no_ rfl (no_ rfl (p_ rfl (s_pickF (v := .bool false) rfl rfl) (m_ (.bool false) rfl (no_ rfl (no_ rfl (p_ rfl (s_pickF (v := .bool false) rfl rfl) (m_ (.bool false) rfl (no_ rfl (no_ rfl (no_ rfl (p_ rfl (s_pickF (v := .bool false) rfl rfl) (a_ (.bool false) rfl (f_nil (f_ret (.tmp rfl (.nil)) rfl)))))))))))))))
  · refine o_know 19 rfl (dec_false h4) (no_ rfl (no_ rfl (p_ rfl (s_pickF (v := .bool false) rfl rfl) (m_ (.bool false) rfl (no_ rfl (no_ rfl (p_ rfl (s_pickF (v := .bool false) rfl rfl) (m_ (.bool false) rfl (no_ rfl (no_ rfl (p_ rfl (s_pickF (v := .bool false) rfl rfl) (m_ (.bool false) rfl (no_ rfl (no_ rfl (no_ rfl ?_)))))))))))))))
    exact p_ rfl (s_pickF (v := .bool false) rfl rfl) (a_ (.bool false) rfl (f_nil (f_ret (.tmp rfl (.nil)) rfl)))

/- 35 (*congou/chest.Chest).Bytes -/
theorem ok35 : FnOk prog 35 := ⟨⟨f35, func35, by kernel_rfl, rfl⟩⟩
theorem s35_l0 : ∀ (k_ : Nat) (v1 v2 : Sl) (v3 v4 : Int) (H : Hp), Fin prog f35 ret35 34 (todoAt (bodyOf f35) [1, 1, 1, 0, 1, 0, 0] []) [(3, .sl v1), (12, .sl v2), (13, .int .i64 v3), (14, .int .i64 v4)] H (r35_l0 k_ v1 v2 v3 v4 H) := by
  intro k_
  induction k_ with
  | zero => intro _ _ _ _ _; exact f_none
  | succ k_ ih =>
    intro v1 v2 v3 v4 H
    rw [r35_l0]
    refine q_ (p_ rfl (s_lss rfl rfl) (f_nil (f_seq ?_)))
    refine f_if (fun h1 => ?_) (fun h1 => ?_)
    · refine kT 15 h1 rfl (f_skip (f_seq (f_block (q_ (o_ck fun g2 => p_ rfl (s_idx underlying116 ty120 rfl rfl g2) (o_bind fun x3 hx3 => o_bind fun x4 hx4 => o_bind fun x5 hx5 => p_ rfl (s_loads underlying120 rfl ty120 rfl (lds_cons (ldStr_eq hx3) (lds_cons (ldI_eq hx4) (lds_cons (ldP_eq hx5) (lds_nil))))) (p_ rfl (s_alloc (zs := [.str (ByteArray.mk #[]), .int .i64 0, .nilptr]) ty120 rfl rfl) (o_bind fun H6 hH6 => p_ rfl (s_stores ty120 rfl rfl rfl rfl hH6 (Nat.le_of_eq (sts_mono hH6).symm)) ?_))))))))
      refine n_ (m_ (.sl v1) rfl (p_ rfl (s_fieldAddr underlying120 rfl ty3 rfl) (o_bind fun x7 hx7 => p_ rfl (s_load underlying3 rfl rfl (ldI_eq hx7)) (p_ rfl (s_convInt underlying3 underlying5 rfl) (p_ rfl (s_fieldAddr underlying120 rfl ty9 rfl) (o_bind fun x8 hx8 => p_ rfl (s_load underlying9 rfl rfl (ldStr_eq hx8)) (p_ rfl (s_lenStr rfl underlying9 rfl) (p_ rfl (s_convInt underlying3 underlying5 rfl) (p_ rfl (s_buildSlice (cs := [.int .u8 (IntKind.wrap .u8 (x7)), .int .u8 (IntKind.wrap .u8 ((x8.size : Int)))]) underlying75 ty5 (by decide) (by decide) rfl (by decide) rfl) (o_bind fun x9 hx9 => p_ rfl (s_ap rfl rfl underlying75 underlying75 ty5 rfl rfl rfl rfl rfl rfl rfl hx9) ?_))))))))))
      refine a_ (.sl x9.1) rfl (f_nil (f_region (m_ (.sl x9.1) rfl (p_ rfl (s_fieldAddr underlying120 rfl ty9 rfl) (o_bind fun x10 hx10 => p_ rfl (s_load underlying9 rfl rfl (ldStr_eq hx10)) (o_bind fun x11 hx11 => p_ rfl (s_appendStr rfl rfl underlying75 underlying9 ty5 rfl (by decide) rfl (by decide) rfl rfl hx11) (a_ (.sl x11.1) rfl (f_nil (f_inBlock (f_region (p_ rfl (s_add rfl rfl) (m_ (.int .i64 (w64 (v4 + 1))) rfl (f_nil ?_)))))))))))))
      exact f_inLoop (f_keep [3, 12, 13, 14] (ih x11.1 v2 v3 (w64 (v4 + 1)) x11.2))
    · exact kF 15 h1 rfl (f_exit rfl (q_ (m_ (.sl v1) rfl (a_ (.sl v1) rfl (f_nil (f_ret (.tmp rfl (.nil)) rfl))))))

theorem sim35 {a0b : Nat} {a0o : Nat} {H : Hp} {p : Sl × Hp} (h : r35 a0b a0o H = some p) : CallSim prog 35 [.ptr a0b a0o] H (.sl p.1) p.2 := by
  refine callSim (fn := f35) (ret := ret35) func35 rfl Tryz.ntmps35 rfl ?_ h
  unfold r35
  refine q_ (a_ (.sl ⟨true, 0, 0, 0, 0, 0⟩) rfl (f_nil (f_seq (q_ (m_ (.ptr a0b a0o) rfl (o_bind fun p1 hp1 => p_ rfl (s_callF rfl ok60 (sim60 hp1)) (f_nil ?_)))))))
  refine f_if (fun h2 => ?_) (fun h2 => ?_)
  · exact bT 7 h2 rfl (q_ (a_ (.sl ⟨true, 0, 0, 0, 0, 0⟩) rfl (f_nil (f_ret (.tmp rfl (.nil)) rfl))))
  · refine bF 7 h2 rfl (f_skip (q_ (a_ (.sl ⟨true, 0, 0, 0, 0, 0⟩) rfl (f_nil (f_seq (q_ (m_ (.ptr a0b a0o) rfl (p_ rfl (s_nilCheck rfl) (p_ rfl (s_fieldAddr underlying118 rfl ty116 rfl) (o_bind fun x3 hx3 => p_ rfl (s_load underlying116 rfl rfl (ldSl_eq hx3)) (o_ck fun g4 => ?_)))))))))))
    exact p_ rfl (s_slice underlying116 ty120 rfl rfl rfl g4.1 g4.2) (p_ rfl (s_lenS rfl underlying116 rfl) (m_ (.int .i64 0) rfl (f_nil (f_block (f_loop (f_keep [3, 12, 13, 14] (s35_l0 FUEL ⟨true, 0, 0, 0, 0, 0⟩ (x3.cut 3 (1 : Int).toNat ((x3.len : Int) : Int).toNat) ((x3.cut 3 (1 : Int).toNat ((x3.len : Int) : Int).toNat).len : Int) 0 p1.2)))))))

/- 174 slices.IndexFunc[[]int,int] -/
theorem ok174 : FnOk prog 174 := ⟨⟨f174, func174, by kernel_rfl, rfl⟩⟩
theorem s174_l0 {app : App} (happ : AppSim prog app) : ∀ (k_ : Nat) (v1 : Sl) (v2 : AV) (v3 v4 : Int) (H : Hp), Fin prog f174 ret174 19 (todoAt (bodyOf f174) [1, 0, 1, 0, 0] []) [(0, .sl v1), (1, v2), (7, .int .i64 v3), (8, .int .i64 v4)] H (r174_l0 app k_ v1 v2 v3 v4 H) := by
  intro k_
  induction k_ with
  | zero => intro _ _ _ _ _; exact f_none
  | succ k_ ih =>
    intro v1 v2 v3 v4 H
    rw [r174_l0]
    refine q_ (p_ rfl (s_lss rfl rfl) (f_nil (f_seq ?_)))
    refine f_if (fun h1 => ?_) (fun h1 => ?_)
    · refine kT 9 h1 rfl (f_skip (f_seq (f_block (q_ (m_ (.int .i64 v4) rfl (a_ (.int .i64 v4) rfl (n_ (m_ v2 rfl (m_ (.sl v1) rfl (m_ (.int .i64 v4) rfl (o_ck fun g2 => ?_)))))))))))
      refine p_ rfl (s_idx underlying25 ty3 rfl rfl g2) (o_bind fun x3 hx3 => p_ rfl (s_load underlying3 rfl rfl (ldI_eq hx3)) (o_bind fun p4 hp4 => o_bind fun x5 hx5 => p_ rfl (s_callv happ rfl rfl hp4) (o_know 16 rfl (asB_eq hx5) (f_nil ?_))))
      refine f_if (fun h6 => ?_) (fun h6 => ?_)
      · exact bT 16 h6 rfl (q_ (m_ (.int .i64 v4) rfl (a_ (.int .i64 v4) rfl (f_nil (f_ret (.tmp rfl (.nil)) rfl)))))
      · exact bF 16 h6 rfl (f_skip (f_inBlock (f_region (p_ rfl (s_add rfl rfl) (m_ (.int .i64 (w64 (v4 + 1))) rfl (f_nil (f_inLoop (f_keep [0, 1, 7, 8] (ih v1 v2 v3 (w64 (v4 + 1)) p4.2)))))))))
    · exact kF 9 h1 rfl (f_exit rfl (q_ (a_ (.int .i64 (-1)) rfl (f_nil (f_ret (.tmp rfl (.nil)) rfl)))))

theorem sim174 {app : App} (happ : AppSim prog app) {a0 : Sl} {a1 : AV} {H : Hp} {p : Int × Hp} (h : r174 app a0 a1 H = some p) : CallSim prog 174 [.sl a0, a1] H (.int .i64 p.1) p.2 := by
  refine callSim (fn := f174) (ret := ret174) func174 rfl Tryz.ntmps174 rfl ?_ h
  unfold r174
  exact q_ (a_ (.int .i64 0) rfl (f_nil (f_seq (q_ (m_ (.sl a0) rfl (p_ rfl (s_lenS rfl underlying25 rfl) (m_ (.int .i64 0) rfl (f_nil (f_block (f_loop (f_keep [0, 1, 7, 8] (s174_l0 happ FUEL a0 a1 (a0.len : Int) 0 H))))))))))))

/- 121 slices.ContainsFunc[[]int,int] -/
theorem ok121 : FnOk prog 121 := ⟨⟨f121, func121, by kernel_rfl, rfl⟩⟩
theorem sim121 {app : App} (happ : AppSim prog app) {a0 : Sl} {a1 : AV} {H : Hp} {p : Bool × Hp} (h : r121 app a0 a1 H = some p) : CallSim prog 121 [.sl a0, a1] H (.bool p.1) p.2 := by
  refine callSim (fn := f121) (ret := ret121) func121 rfl Tryz.ntmps121 rfl ?_ h
  unfold r121
  exact q_ (a_ (.bool false) rfl (n_ (m_ (.sl a0) rfl (m_ a1 rfl (o_bind fun p1 hp1 => p_ rfl (s_callF rfl ok174 (sim174 happ hp1)) (p_ rfl (s_geq rfl rfl) (a_ (.bool (decide (0 ≤ p1.1))) rfl (f_nil (f_ret (.tmp rfl (.nil)) rfl)))))))))

/- 79 (*congou/chest.Chest).has -/
theorem ok79 : FnOk prog 79 := ⟨⟨f79, func79, by kernel_rfl, rfl⟩⟩
theorem sim79 {app : App} (happ : AppSim prog app) {a0b : Nat} {a0o : Nat} {a1 : Sl} {H : Hp} {p : Bool × Hp} (h : r79 app a0b a0o a1 H = some p) : CallSim prog 79 [.ptr a0b a0o, .sl a1] H (.bool p.1) p.2 := by
  refine callSim (fn := f79) (ret := ret79) func79 rfl Tryz.ntmps79 rfl ?_ h
  unfold r79
  exact q_ (p_ rfl (s_box1 (v := .ptr a0b a0o) rfl rfl) (a_ (.bool false) rfl (o_hp fun H1 hH1 => n_ (m_ (.sl a1) rfl (p_ rfl (s_makeFunc rfl rfl) (o_bind fun p2 hp2 => p_ rfl (s_callF rfl ok121 (sim121 happ hp2)) (p_ rfl (s_not rfl) (a_ (.bool (!p2.1)) rfl (f_nil (f_ret (.tmp rfl (.nil)) rfl))))))))))

/- 40 (*congou/chest.Chest).Go -/
theorem ok40 : FnOk prog 40 := ⟨⟨f40, func40, by kernel_rfl, rfl⟩⟩
theorem sim40 {app : App} (happ : AppSim prog app) {a0b : Nat} {a0o : Nat} {a1 : Int} {H : Hp} {p : Int × Hp} (h : r40 app a0b a0o a1 H = some p) : CallSim prog 40 [.ptr a0b a0o, .int .i64 a1] H (.int .i64 p.1) p.2 := by
  refine callSim (fn := f40) (ret := ret40) func40 rfl Tryz.ntmps40 rfl ?_ h
  unfold r40
  refine q_ (a_ (.int .i64 0) rfl (f_nil (f_seq (f_block (q_ (m_ (.ptr a0b a0o) rfl (o_bind fun p1 hp1 => p_ rfl (s_callF rfl ok60 (sim60 hp1)) (a_ (.bool p1.1) rfl (f_nil ?_)))))))))
  refine f_if (fun h2 => ?_) (fun h2 => ?_)
  · exact bT 5 h2 rfl (q_ (a_ (.int .i64 1) rfl (f_nil (f_ret (.tmp rfl (.nil)) rfl))))
  · refine bF 5 h2 rfl (q_ (m_ (.ptr a0b a0o) rfl (m_ (.int .i64 a1) rfl (p_ rfl (s_buildSlice (cs := [.int .i64 a1]) underlying25 ty3 (by decide) (by decide) rfl (by decide) rfl) (o_bind fun p3 hp3 => p_ rfl (s_callF rfl ok79 (sim79 happ hp3)) (p_ rfl (s_not rfl) (a_ (.bool (!p3.1)) rfl (f_nil ?_))))))))
    refine f_if (fun h4 => ?_) (fun h4 => ?_)
    · refine f_know 8 rfl (bool_notT h4) (f_condF rfl (f_skip (f_inBlock (q_ (m_ (.ptr a0b a0o) rfl (m_ (.int .i64 a1) rfl (p_ rfl (s_nilCheck rfl) (p_ rfl (s_fieldAddr underlying118 rfl ty3 rfl) (o_bind fun H5 hH5 => p_ rfl (s_store (s := 1) ty3 rfl rfl rfl hH5) (n_ (a_ (.int .i64 0) rfl ?_)))))))))))
      exact f_nil (f_ret (.tmp rfl (.nil)) rfl)
    · exact f_know 8 rfl (bool_notF h4) (f_condT rfl (q_ (a_ (.int .i64 2) rfl (f_nil (f_ret (.tmp rfl (.nil)) rfl)))))

/- 36 congou/chest.Read -/
theorem ok36 : FnOk prog 36 := ⟨⟨f36, func36, by kernel_rfl, rfl⟩⟩
theorem s36_j2 {app : App} (happ : AppSim prog app) (kt0 : Sl → Nat → Nat → Hp → Option ((AV × Int) × Hp)) (hkt0 : ∀ (v1 : Sl) (v2 v3 : Nat) (H : Hp), Fin prog f36 ret36 74 (todoAt (bodyOf f36) [1, 1, 0, 0, 0] []) [(0, .sl v1), (4, .ptr v2 v3)] H (kt0 v1 v2 v3 H)) (v1 : Sl) (v2 v3 : Nat) (v4 : ByteArray) (v5 : Bool) (H : Hp) : Fin prog f36 ret36 74 (todoAt (bodyOf f36) [1, 1, 0, 0, 0, 1, 0, 1, 1, 1, 0, 1, 1] []) [(0, .sl v1), (4, .ptr v2 v3), (6, .str v4), (64, .bool v5)] H (r36_j2 app kt0 v1 v2 v3 v4 v5 H) := by
  unfold r36_j2
  refine f_if (fun h1 => ?_) (fun h1 => ?_)
  · exact bT 64 h1 rfl (q_ (a_ (.nilptr) rfl (a_ (.int .i64 3) rfl (f_nil (f_ret (.tmp rfl (.tmp rfl (.nil))) rfl)))))
  · exact bF 64 h1 rfl (f_skip (f_region (m_ (.sl v1) rfl (m_ (.str v4) rfl (p_ rfl (s_lenStr rfl underlying9 rfl) (p_ rfl (s_add rfl rfl) (o_ck fun g2 => p_ rfl (s_slice underlying75 ty5 rfl rfl rfl g2.1 g2.2) (a_ (.sl (v1.cut 1 (w64 (2 + (v4.size : Int)) : Int).toNat ((v1.len : Int) : Int).toNat)) rfl (f_nil (f_inBlock (f_inLoop (f_keep [0, 4] (hkt0 (v1.cut 1 (w64 (2 + (v4.size : Int)) : Int).toNat ((v1.len : Int) : Int).toNat) v2 v3 H)))))))))))))

theorem s36_j1 {app : App} (happ : AppSim prog app) (kt0 : Sl → Nat → Nat → Hp → Option ((AV × Int) × Hp)) (hkt0 : ∀ (v1 : Sl) (v2 v3 : Nat) (H : Hp), Fin prog f36 ret36 74 (todoAt (bodyOf f36) [1, 1, 0, 0, 0] []) [(0, .sl v1), (4, .ptr v2 v3)] H (kt0 v1 v2 v3 H)) (v1 : Sl) (v2 v3 : Nat) (v4 : Bool) (H : Hp) : Fin prog f36 ret36 74 (todoAt (bodyOf f36) [1, 1, 0, 0, 0, 1, 0, 0, 1] []) [(0, .sl v1), (4, .ptr v2 v3), (34, .bool v4)] H (r36_j1 app kt0 v1 v2 v3 v4 H) := by
  unfold r36_j1
  refine f_if (fun h1 => ?_) (fun h1 => ?_)
  · exact bT 34 h1 rfl (q_ (a_ (.nilptr) rfl (a_ (.int .i64 3) rfl (f_nil (f_ret (.tmp rfl (.tmp rfl (.nil))) rfl)))))
  · refine bF 34 h1 rfl (f_skip (q_ (m_ (.ptr v2 v3) rfl (p_ rfl (s_nilCheck rfl) (p_ rfl (s_fieldAddr underlying118 rfl ty116 rfl) (o_bind fun x2 hx2 => p_ rfl (s_load underlying116 rfl rfl (ldSl_eq hx2)) (p_ rfl (s_lenS rfl underlying116 rfl) (a_ (.int .i64 (x2.len : Int)) rfl (n_ (m_ (.sl v1) rfl ?_))))))))))
    refine m_ (.sl v1) rfl (o_ck fun g3 => p_ rfl (s_idx underlying75 ty5 rfl rfl g3) (o_bind fun x4 hx4 => p_ rfl (s_load underlying5 rfl rfl (ldI_eq hx4)) (p_ rfl (s_convInt underlying5 underlying3 rfl) (p_ rfl (s_add rfl rfl) (o_ck fun g5 => p_ rfl (s_slice underlying75 ty5 rfl rfl rfl g5.1 g5.2) (o_bind fun x6 hx6 => o_bind fun x7 hx7 => p_ rfl (s_bytesStr underlying75 underlying9 underlying5 rfl hx6 hx7) (a_ (.str (strOfNums x7)) rfl (f_nil (f_seq (f_seq ?_))))))))))
    refine f_region (m_ (.ptr v2 v3) rfl (m_ (.str (strOfNums x7)) rfl (o_bind fun p8 hp8 => p_ rfl (s_callF rfl ok20 (sim20 happ hp8)) (m_ (.tup [.str p8.1.1, .int .i64 p8.1.2]) rfl (p_ rfl (s_extract (r := .str p8.1.1) rfl rfl) (p_ rfl (s_extract (r := .int .i64 p8.1.2) rfl rfl) (a_ (.str p8.1.1) rfl (a_ (.int .i64 p8.1.2) rfl (n_ (m_ (.int .i64 p8.1.2) rfl (p_ rfl (s_neq rfl rfl) (m_ (.bool (decide (p8.1.2 ≠ 0))) rfl ?_))))))))))))
    refine o_if (fun h9 => ?_) (fun h9 => ?_)
    · exact o_know 56 rfl (dec_true h9) (no_ rfl (no_ rfl (no_ rfl (no_ rfl (no_ rfl (no_ rfl (no_ rfl (p_ rfl (s_pickT (v := .bool true) rfl rfl) (f_nil (f_keep [0, 4, 6, 64] (s36_j2 happ _ hkt0 v1 v2 v3 (strOfNums x7) true p8.2)))))))))))
    · exact o_know 56 rfl (dec_false h9) (m_ (.ptr v2 v3) rfl (p_ rfl (s_nilCheck rfl) (p_ rfl (s_fieldAddr underlying118 rfl ty116 rfl) (o_bind fun x10 hx10 => p_ rfl (s_load underlying116 rfl rfl (ldSl_eq hx10)) (p_ rfl (s_lenS rfl underlying116 rfl) (m_ (.int .i64 (x2.len : Int)) rfl (p_ rfl (s_eql rfl rfl) (p_ rfl (s_pickF (v := .bool (decide ((x10.len : Int) = (x2.len : Int)))) rfl rfl) (f_nil (f_keep [0, 4, 6, 64] (s36_j2 happ _ hkt0 v1 v2 v3 (strOfNums x7) (decide ((x10.len : Int) = (x2.len : Int))) p8.2)))))))))))

theorem s36_l0 {app : App} (happ : AppSim prog app) : ∀ (k_ : Nat) (v1 : Sl) (v2 v3 : Nat) (H : Hp), Fin prog f36 ret36 74 (todoAt (bodyOf f36) [1, 1, 0, 0, 0] []) [(0, .sl v1), (4, .ptr v2 v3)] H (r36_l0 app k_ v1 v2 v3 H) := by
  intro k_
  induction k_ with
  | zero => intro _ _ _ _; exact f_none
  | succ k_ ih =>
    intro v1 v2 v3 H
    rw [r36_l0]
    refine f_seq (q_ (m_ (.sl v1) rfl (p_ rfl (s_lenS rfl underlying75 rfl) (p_ rfl (s_gtr rfl rfl) (f_nil ?_)))))
    refine f_if (fun h1 => ?_) (fun h1 => ?_)
    · refine kT 12 h1 rfl (f_skip (f_block (f_seq (q_ (m_ (.sl v1) rfl (p_ rfl (s_lenS rfl underlying75 rfl) (p_ rfl (s_lss rfl rfl) (m_ (.bool (decide ((v1.len : Int) < 2))) rfl ?_))))))))
      refine o_if (fun h2 => ?_) (fun h2 => ?_)
      · refine o_know 16 rfl (dec_true h2) (no_ rfl (no_ rfl (no_ rfl (no_ rfl (no_ rfl (no_ rfl (no_ rfl (no_ rfl (p_ rfl (s_pickT (v := .bool true) rfl rfl) (m_ (.bool true) rfl (no_ rfl (no_ rfl (no_ rfl (no_ rfl (no_ rfl ?_)))))))))))))))
        exact no_ rfl (no_ rfl (p_ rfl (s_pickT (v := .bool true) rfl rfl) (f_nil (f_keep [0, 4, 34] (s36_j1 happ _ ih v1 v2 v3 true H)))))
      · refine o_know 16 rfl (dec_false h2) (m_ (.sl v1) rfl (p_ rfl (s_lenS rfl underlying75 rfl) (m_ (.sl v1) rfl (o_ck fun g3 => p_ rfl (s_idx underlying75 ty5 rfl rfl g3) (o_bind fun x4 hx4 => p_ rfl (s_load underlying5 rfl rfl (ldI_eq hx4)) (p_ rfl (s_convInt underlying5 underlying3 rfl) (p_ rfl (s_add rfl rfl) (p_ rfl (s_lss rfl rfl) (p_ rfl (s_pickF (v := .bool (decide ((v1.len : Int) < (w64 (2 + (w64 (x4))))))) rfl rfl) (m_ (.bool (decide ((v1.len : Int) < (w64 (2 + (w64 (x4))))))) rfl ?_))))))))))
        refine o_if (fun h5 => ?_) (fun h5 => ?_)
        · exact o_know 26 rfl (dec_true h5) (no_ rfl (no_ rfl (no_ rfl (no_ rfl (no_ rfl (no_ rfl (no_ rfl (p_ rfl (s_pickT (v := .bool true) rfl rfl) (f_nil (f_keep [0, 4, 34] (s36_j1 happ _ ih v1 v2 v3 true H)))))))))))
        · exact o_know 26 rfl (dec_false h5) (m_ (.ptr v2 v3) rfl (m_ (.sl v1) rfl (o_ck fun g6 => p_ rfl (s_idx underlying75 ty5 rfl rfl g6) (o_bind fun x7 hx7 => p_ rfl (s_load underlying5 rfl rfl (ldI_eq hx7)) (p_ rfl (s_convInt underlying5 underlying3 rfl) (o_bind fun p8 hp8 => p_ rfl (s_callF rfl ok40 (sim40 happ hp8)) (p_ rfl (s_neq rfl rfl) (p_ rfl (s_pickF (v := .bool (decide (p8.1 ≠ 0))) rfl rfl) (f_nil (f_keep [0, 4, 34] (s36_j1 happ _ ih v1 v2 v3 (decide (p8.1 ≠ 0)) p8.2)))))))))))
    · refine kF 12 h1 rfl (f_exit rfl (q_ (m_ (.ptr v2 v3) rfl (p_ rfl (s_nilCheck rfl) (p_ rfl (s_fieldAddr underlying118 rfl ty3 rfl) (o_bind fun H9 hH9 => p_ rfl (s_store (s := 1) ty3 rfl rfl rfl hH9) (n_ (m_ (.ptr v2 v3) rfl (a_ (.ptr v2 v3) rfl (a_ (.int .i64 0) rfl ?_))))))))))
      exact f_nil (f_ret (.tmp rfl (.tmp rfl (.nil))) rfl)

theorem sim36 {app : App} (happ : AppSim prog app) {a0 : Sl} {H : Hp} {p : (AV × Int) × Hp} (h : r36 app a0 H = some p) : CallSim prog 36 [.sl a0] H (.tup [p.1.1, .int .i64 p.1.2]) p.2 := by
  refine callSim (fn := f36) (ret := ret36) func36 rfl Tryz.ntmps36 rfl ?_ h
  unfold r36
  exact q_ (a_ (.nilptr) rfl (a_ (.int .i64 0) rfl (n_ (o_bind fun p1 hp1 => p_ rfl (s_callF rfl ok47 (sim47 hp1)) (a_ (.ptr p1.1.1 p1.1.2) rfl (f_nil (f_seq (f_block (f_loop (f_keep [0, 4] (s36_l0 happ FUEL a0 p1.1.1 p1.1.2 p1.2)))))))))))

/- 39 bytes.Equal -/
theorem ok39 : FnOk prog 39 := ⟨⟨f39, func39, by kernel_rfl, rfl⟩⟩
theorem sim39 {a0 : Sl} {a1 : Sl} {H : Hp} {p : Bool × Hp} (h : r39 a0 a1 H = some p) : CallSim prog 39 [.sl a0, .sl a1] H (.bool p.1) p.2 := by
  refine callSim (fn := f39) (ret := ret39) func39 rfl Tryz.ntmps39 rfl ?_ h
  unfold r39
  refine q_ (a_ (.bool false) rfl (n_ (m_ (.sl a0) rfl (o_bind fun x1 hx1 => o_bind fun x2 hx2 => p_ rfl (s_bytesStr underlying75 underlying9 underlying5 rfl hx1 hx2) (m_ (.sl a1) rfl (o_bind fun x3 hx3 => o_bind fun x4 hx4 => p_ rfl (s_bytesStr underlying75 underlying9 underlying5 rfl hx3 hx4) (p_ rfl (s_eqStr rfl rfl) (a_ (.bool (strEq (strOfNums x2) (strOfNums x4))) rfl ?_))))))))
  exact f_nil (f_ret (.tmp rfl (.nil)) rfl)

/- 21 slices.Equal[[]int,int] -/
theorem ok21 : FnOk prog 21 := ⟨⟨f21, func21, by kernel_rfl, rfl⟩⟩
theorem s21_l0 : ∀ (k_ : Nat) (v1 v2 : Sl) (v3 v4 : Int) (H : Hp), Fin prog f21 ret21 26 (todoAt (bodyOf f21) [1, 1, 0, 1, 0, 0] []) [(0, .sl v1), (1, .sl v2), (12, .int .i64 v3), (13, .int .i64 v4)] H (r21_l0 k_ v1 v2 v3 v4 H) := by
  intro k_
  induction k_ with
  | zero => intro _ _ _ _ _; exact f_none
  | succ k_ ih =>
    intro v1 v2 v3 v4 H
    rw [r21_l0]
    refine q_ (p_ rfl (s_lss rfl rfl) (f_nil (f_seq ?_)))
    refine f_if (fun h1 => ?_) (fun h1 => ?_)
    · refine kT 14 h1 rfl (f_skip (f_seq (f_block (q_ (m_ (.int .i64 v4) rfl (a_ (.int .i64 v4) rfl (f_nil (f_seq (f_ck fun g2 => f_bind fun x3 hx3 => f_ck fun g4 => f_bind fun x5 hx5 => f_draw (Φ := fun _ => True) (lim := 1000000) [0, 0, 0, 1, 0, 0, 0, 1, 0] (tm (.sl v1) rfl (tm (.int .i64 v4) rfl (t_ rfl (fun _ => s_idx underlying25 ty3 rfl rfl g2) (tr rfl (s_load underlying3 rfl rfl (ldI_eq hx3)) (tm (.sl v2) rfl (tm (.int .i64 v4) rfl (t_ rfl (fun _ => s_idx underlying25 ty3 rfl rfl g4) (tr rfl (s_load underlying3 rfl rfl (ldI_eq hx5)) (t_ rfl (fun _ => s_neq rfl rfl) (Trc.nil (fun _ => trivial))))))))))) rfl (by decide +kernel) mixed ?_)))))))))
      refine f_if (fun h6 => ?_) (fun h6 => ?_)
      · exact kT 24 h6 rfl (q_ (a_ (.bool false) rfl (f_nil (f_ret (.tmp rfl (.nil)) rfl))))
      · exact kF 24 h6 rfl (f_skip (f_inBlock (f_region (p_ rfl (s_add rfl rfl) (m_ (.int .i64 (w64 (v4 + 1))) rfl (f_nil (f_inLoop (f_keep [0, 1, 12, 13] (ih v1 v2 v3 (w64 (v4 + 1)) H)))))))))
    · exact kF 14 h1 rfl (f_exit rfl (q_ (a_ (.bool true) rfl (f_nil (f_ret (.tmp rfl (.nil)) rfl)))))

theorem sim21 {a0 : Sl} {a1 : Sl} {H : Hp} {p : Bool × Hp} (h : r21 a0 a1 H = some p) : CallSim prog 21 [.sl a0, .sl a1] H (.bool p.1) p.2 := by
  refine callSim (fn := f21) (ret := ret21) func21 rfl Tryz.ntmps21 rfl ?_ h
  unfold r21
  refine q_ (a_ (.bool false) rfl (f_nil (f_seq (q_ (m_ (.sl a0) rfl (p_ rfl (s_lenS rfl underlying25 rfl) (m_ (.sl a1) rfl (p_ rfl (s_lenS rfl underlying25 rfl) (p_ rfl (s_neq rfl rfl) (f_nil ?_))))))))))
  refine f_if (fun h1 => ?_) (fun h1 => ?_)
  · exact kT 10 h1 rfl (q_ (a_ (.bool false) rfl (f_nil (f_ret (.tmp rfl (.nil)) rfl))))
  · exact kF 10 h1 rfl (f_skip (f_seq (q_ (m_ (.sl a0) rfl (p_ rfl (s_lenS rfl underlying25 rfl) (m_ (.int .i64 0) rfl (f_nil (f_block (f_loop (f_keep [0, 1, 12, 13] (s21_l0 FUEL a0 a1 (a0.len : Int) 0 H)))))))))))

end Go.Lt.P10
