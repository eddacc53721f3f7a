/- PRINTED BY A PROGRAM OF OURS: what each function that 'ChestGives' reaches computes on the abstract heap, and that the translated code does just that. Nothing is asked of the input. -/
import Derived.Test.YtopildlfbhfghaaGreatDoorG6P3
set_option linter.unusedVariables false
set_option linter.unusedSimpArgs false
set_option maxRecDepth 100000
set_option maxHeartbeats 4000000
namespace Go.Lt.P10
open Go Go.Lt Go.Proofs Go.Proofs.Tryz
/- 6 congou/congoulaw10.ChestGives -/
theorem ok6 : FnOk prog 6 := ⟨⟨f6, func6, by kernel_rfl, rfl⟩⟩
theorem s6_j2 {app : App} (happ : AppSim prog app) (v1 : ByteArray) (v2 v3 : Nat) (v4 : Int) (H : Hp) : Fin prog f6 ret6 130 (todoAt (bodyOf f6) [1, 1, 1, 1, 1, 1, 1, 1, 1, 1, 1] []) [(1, .str v1), (9, .ptr v2 v3), (10, .int .i64 v4)] H (r6_j2 app v1 v2 v3 v4 H) := by
 unfold r6_j2
 refine q_ (m_ (.ptr v2 v3) rfl (m_ (.str v1) rfl (o_ck fun g1 => p_ rfl (s_addStr rfl rfl g1) (o_bind fun p2 hp2 => p_ rfl (s_callF rfl ok20 (sim20 happ hp2)) (m_ (.tup [.str p2.1.1, .int .i64 p2.1.2]) rfl (p_ rfl (s_extract (r := .str p2.1.1) rfl rfl) (p_ rfl (s_extract (r := .int .i64 p2.1.2) rfl rfl) (a_ (.int .i64 p2.1.2) rfl (n_ (m_ (.ptr v2 v3) rfl ?_))))))))))
 refine o_bind fun p3 hp3 => p_ rfl (s_callF rfl ok31 (sim31 happ hp3)) (m_ (.tup [.int .i64 p3.1.1, .int .i64 p3.1.2.1, .bool p3.1.2.2]) rfl (p_ rfl (s_extract (r := .int .i64 p3.1.1) rfl rfl) (p_ rfl (s_extract (r := .int .i64 p3.1.2.1) rfl rfl) (p_ rfl (s_extract (r := .bool p3.1.2.2) rfl rfl) (a_ (.int .i64 p3.1.1) rfl (a_ (.bool p3.1.2.2) rfl (n_ (m_ (.bool p3.1.2.2) rfl (m_ (.bool p3.1.2.2) rfl ?_)))))))))
 refine o_if (fun h4 => ?_) (fun h4 => ?_)
 ·refine o_know 108 rfl (bool_T h4) (m_ (.int .i64 p2.1.2) rfl (p_ rfl (s_eql rfl rfl) (m_ (.bool (decide (p2.1.2 = 0))) rfl ?_)))
  refine o_if (fun h5 => ?_) (fun h5 => ?_)
  ·refine o_know 111 rfl (dec_true h5) (m_ (.int .i64 p3.1.1) rfl (m_ (.int .i64 v4) rfl (p_ rfl (s_sub rfl rfl) (p_ rfl (s_eql rfl rfl) (p_ rfl (s_pickT (v := .bool (decide (p3.1.1 = (w64 (v4 - 1))))) rfl rfl) (m_ (.bool (decide (p3.1.1 = (w64 (v4 - 1))))) rfl ?_))))))
   refine o_if (fun h6 => ?_) (fun h6 => ?_)
   ·refine o_know 117 rfl (dec_true h6) (no_ rfl (no_ rfl (no_ rfl (no_ rfl (no_ rfl (no_ rfl (no_ rfl (p_ rfl (s_pickT (v := .bool true) rfl rfl) (p_ rfl (s_pickT (v := .bool true) rfl rfl) (m_ (.bool true) rfl (o_bind fun p7 hp7 => o_bind fun x8 hx8 => p_ rfl (s_callA happ rfl hp7) (o_know 128 rfl (asB_eq hx8) (p_ rfl (s_pickT (v := .bool x8) rfl rfl) ?_)))))))))))))
    exact a_ (.bool x8) rfl (f_nil (f_ret (.tmp rfl (.nil)) rfl))
   ·refine o_know 117 rfl (dec_false h6) (m_ (.int .i64 p2.1.2) rfl (p_ rfl (s_neq rfl rfl) (m_ (.bool (decide (p2.1.2 ≠ 0))) rfl ?_)))
    refine o_if (fun h9 => ?_) (fun h9 => ?_)
    ·refine o_know 120 rfl (dec_true h9) (m_ (.int .i64 p3.1.1) rfl (m_ (.int .i64 v4) rfl (p_ rfl (s_eql rfl rfl) (p_ rfl (s_pickT (v := .bool (decide (p3.1.1 = v4))) rfl rfl) (p_ rfl (s_pickF (v := .bool (decide (p3.1.1 = v4))) rfl rfl) (p_ rfl (s_pickT (v := .bool (decide (p3.1.1 = v4))) rfl rfl) (m_ (.bool (decide (p3.1.1 = v4))) rfl ?_)))))))
     refine o_if (fun h10 => ?_) (fun h10 => ?_)
     ·exact o_know 127 rfl (dec_true h10) (o_bind fun p11 hp11 => o_bind fun x12 hx12 => p_ rfl (s_callA happ rfl hp11) (o_know 128 rfl (asB_eq hx12) (p_ rfl (s_pickT (v := .bool x12) rfl rfl) (a_ (.bool x12) rfl (f_nil (f_ret (.tmp rfl (.nil)) rfl))))))
     ·exact o_know 127 rfl (dec_false h10) (no_ rfl (p_ rfl (s_pickF (v := .bool false) rfl rfl) (a_ (.bool false) rfl (f_nil (f_ret (.tmp rfl (.nil)) rfl)))))
    ·exact o_know 120 rfl (dec_false h9) (no_ rfl (no_ rfl (no_ rfl (p_ rfl (s_pickF (v := .bool false) rfl rfl) (p_ rfl (s_pickF (v := .bool false) rfl rfl) (p_ rfl (s_pickT (v := .bool false) rfl rfl) (m_ (.bool false) rfl (no_ rfl (p_ rfl (s_pickF (v := .bool false) rfl rfl) (a_ (.bool false) rfl (f_nil (f_ret (.tmp rfl (.nil)) rfl))))))))))))
  ·refine o_know 111 rfl (dec_false h5) (no_ rfl (no_ rfl (no_ rfl (no_ rfl (p_ rfl (s_pickF (v := .bool false) rfl rfl) (m_ (.bool false) rfl (m_ (.int .i64 p2.1.2) rfl (p_ rfl (s_neq rfl rfl) (m_ (.bool (decide (p2.1.2 ≠ 0))) rfl ?_)))))))))
   refine o_if (fun h13 => ?_) (fun h13 => ?_)
   ·refine o_know 120 rfl (dec_true h13) (m_ (.int .i64 p3.1.1) rfl (m_ (.int .i64 v4) rfl (p_ rfl (s_eql rfl rfl) (p_ rfl (s_pickT (v := .bool (decide (p3.1.1 = v4))) rfl rfl) (p_ rfl (s_pickF (v := .bool (decide (p3.1.1 = v4))) rfl rfl) (p_ rfl (s_pickT (v := .bool (decide (p3.1.1 = v4))) rfl rfl) (m_ (.bool (decide (p3.1.1 = v4))) rfl ?_)))))))
    refine o_if (fun h14 => ?_) (fun h14 => ?_)
    ·exact o_know 127 rfl (dec_true h14) (o_bind fun p15 hp15 => o_bind fun x16 hx16 => p_ rfl (s_callA happ rfl hp15) (o_know 128 rfl (asB_eq hx16) (p_ rfl (s_pickT (v := .bool x16) rfl rfl) (a_ (.bool x16) rfl (f_nil (f_ret (.tmp rfl (.nil)) rfl))))))
    ·exact o_know 127 rfl (dec_false h14) (no_ rfl (p_ rfl (s_pickF (v := .bool false) rfl rfl) (a_ (.bool false) rfl (f_nil (f_ret (.tmp rfl (.nil)) rfl)))))
   ·exact o_know 120 rfl (dec_false h13) (no_ rfl (no_ rfl (no_ rfl (p_ rfl (s_pickF (v := .bool false) rfl rfl) (p_ rfl (s_pickF (v := .bool false) rfl rfl) (p_ rfl (s_pickT (v := .bool false) rfl rfl) (m_ (.bool false) rfl (no_ rfl (p_ rfl (s_pickF (v := .bool false) rfl rfl) (a_ (.bool false) rfl (f_nil (f_ret (.tmp rfl (.nil)) rfl))))))))))))
 ·refine o_know 108 rfl (bool_F h4) (no_ rfl (no_ rfl (no_ rfl (no_ rfl (no_ rfl (no_ rfl (no_ rfl (no_ rfl (no_ rfl (no_ rfl (no_ rfl (no_ rfl (no_ rfl (no_ rfl (no_ rfl ?_)))))))))))))))
  exact no_ rfl (no_ rfl (p_ rfl (s_pickF (v := .bool false) rfl rfl) (m_ (.bool false) rfl (no_ rfl (p_ rfl (s_pickF (v := .bool false) rfl rfl) (a_ (.bool false) rfl (f_nil (f_ret (.tmp rfl (.nil)) rfl))))))))

theorem s6_j0 {app : App} (happ : AppSim prog app) (v1 : ByteArray) (v2 v3 : Nat) (v4 : Int) (v5 : Bool) (H : Hp) : Fin prog f6 ret6 130 (todoAt (bodyOf f6) [1, 1, 1, 1, 1, 1, 1, 1, 1, 1, 0, 1, 0, 1, 1] []) [(1, .str v1), (9, .ptr v2 v3), (10, .int .i64 v4), (93, .bool v5)] H (r6_j0 app v1 v2 v3 v4 v5 H) := by
 unfold r6_j0
 refine f_if (fun h1 => ?_) (fun h1 => ?_)
 ·exact bT 93 h1 rfl (q_ (a_ (.bool false) rfl (f_nil (f_ret (.tmp rfl (.nil)) rfl))))
 ·exact bF 93 h1 rfl (f_skip (f_keep [1, 9, 10] (s6_j2 happ v1 v2 v3 v4 H)))

theorem s6_j1 {app : App} (happ : AppSim prog app) (v1 v2 : ByteArray) (v3 : Int) (v4 v5 : Nat) (v6 v7 v8 : Int) (v9 : Bool) (H : Hp) : Fin prog f6 ret6 130 (todoAt (bodyOf f6) [1, 1, 1, 1, 1, 1, 1, 1, 1, 0, 1] []) [(1, .str v1), (2, .str v2), (3, .int .i64 v3), (9, .ptr v4 v5), (10, .int .i64 v6), (13, .int .i64 v7), (16, .int .i64 v8), (70, .bool v9)] H (r6_j1 app v1 v2 v3 v4 v5 v6 v7 v8 v9 H) := by
 unfold r6_j1
 refine f_if (fun h1 => ?_) (fun h1 => ?_)
 ·exact bT 70 h1 rfl (q_ (a_ (.bool false) rfl (f_nil (f_ret (.tmp rfl (.nil)) rfl))))
 ·refine bF 70 h1 rfl (f_skip (f_seq (q_ (m_ (.int .i64 v8) rfl (p_ rfl (s_eql rfl rfl) (f_nil ?_))))))
  refine f_if (fun h2 => ?_) (fun h2 => ?_)
  ·refine kT 72 h2 rfl (q_ (m_ (.ptr v4 v5) rfl (o_bind fun p3 hp3 => p_ rfl (s_callF rfl ok32 (sim32 happ hp3)) (m_ (.tup [.int .i64 p3.1.1, .bool p3.1.2]) rfl (p_ rfl (s_extract (r := .int .i64 p3.1.1) rfl rfl) (p_ rfl (s_extract (r := .bool p3.1.2) rfl rfl) (a_ (.int .i64 p3.1.1) rfl (a_ (.bool p3.1.2) rfl (n_ (m_ (.bool p3.1.2) rfl ?_))))))))))
   refine p_ rfl (s_not rfl) (m_ (.bool (!p3.1.2)) rfl ?_)
   refine o_if (fun h4 => ?_) (fun h4 => ?_)
   ·refine o_know 80 rfl (bool_notT h4) (m_ (.int .i64 v3) rfl (p_ rfl (s_lss rfl rfl) (p_ rfl (s_pickF (v := .bool (decide (v3 < 1))) rfl rfl) (m_ (.bool (decide (v3 < 1))) rfl ?_))))
    refine o_if (fun h5 => ?_) (fun h5 => ?_)
    ·exact o_know 84 rfl (dec_true h5) (no_ rfl (no_ rfl (no_ rfl (p_ rfl (s_pickT (v := .bool true) rfl rfl) (m_ (.bool true) rfl (no_ rfl (no_ rfl (no_ rfl (p_ rfl (s_pickT (v := .bool true) rfl rfl) (f_nil (f_keep [1, 9, 10, 93] (s6_j0 happ v1 v4 v5 v6 true p3.2))))))))))))
    ·refine o_know 84 rfl (dec_false h5) (m_ (.str v1) rfl (m_ (.str v2) rfl (p_ rfl (s_eqStr rfl rfl) (p_ rfl (s_pickF (v := .bool (strEq v1 v2)) rfl rfl) (m_ (.bool (strEq v1 v2)) rfl ?_)))))
     refine o_if (fun h6 => ?_) (fun h6 => ?_)
     ·exact o_know 89 rfl (bool_T h6) (no_ rfl (no_ rfl (no_ rfl (p_ rfl (s_pickT (v := .bool true) rfl rfl) (f_nil (f_keep [1, 9, 10, 93] (s6_j0 happ v1 v4 v5 v6 true p3.2)))))))
     ·exact o_know 89 rfl (bool_F h6) (m_ (.int .i64 p3.1.1) rfl (m_ (.int .i64 v7) rfl (p_ rfl (s_gtr rfl rfl) (p_ rfl (s_pickF (v := .bool (decide (v7 < p3.1.1))) rfl rfl) (f_nil (f_keep [1, 9, 10, 93] (s6_j0 happ v1 v4 v5 v6 (decide (v7 < p3.1.1)) p3.2)))))))
   ·refine o_know 80 rfl (bool_notF h4) (no_ rfl (no_ rfl (p_ rfl (s_pickT (v := .bool true) rfl rfl) (m_ (.bool true) rfl (no_ rfl (no_ rfl (no_ rfl (p_ rfl (s_pickT (v := .bool true) rfl rfl) (m_ (.bool true) rfl (no_ rfl (no_ rfl (no_ rfl (p_ rfl (s_pickT (v := .bool true) rfl rfl) (f_nil (f_keep [1, 9, 10, 93] ?_)))))))))))))))
    exact s6_j0 happ v1 v4 v5 v6 true p3.2
  ·exact kF 72 h2 rfl (f_skip (f_keep [1, 9, 10] (s6_j2 happ v1 v4 v5 v6 H)))

theorem sim6 {app : App} (happ : AppSim prog app) {a0 : Sl} {a1 : ByteArray} {a2 : ByteArray} {a3 : Int} {H : Hp} {p : Bool × Hp} (h : r6 app a0 a1 a2 a3 H = some p) : CallSim prog 6 [.sl a0, .str a1, .str a2, .int .i64 a3] H (.bool p.1) p.2 := by
 refine callSim (fn := f6) (ret := ret6) func6 rfl Tryz.ntmps6 rfl ?_ h
 unfold r6
 refine q_ (a_ (.bool false) rfl (n_ (m_ (.sl a0) rfl (o_bind fun p1 hp1 => p_ rfl (s_callF rfl ok30 (sim30 happ hp1)) (a_ (.ptr p1.1.1 p1.1.2) rfl (n_ (m_ (.ptr p1.1.1 p1.1.2) rfl (o_bind fun p2 hp2 => p_ rfl (s_callF rfl ok31 (sim31 happ hp2)) ?_))))))))
 refine m_ (.tup [.int .i64 p2.1.1, .int .i64 p2.1.2.1, .bool p2.1.2.2]) rfl (p_ rfl (s_extract (r := .int .i64 p2.1.1) rfl rfl) (p_ rfl (s_extract (r := .int .i64 p2.1.2.1) rfl rfl) (p_ rfl (s_extract (r := .bool p2.1.2.2) rfl rfl) (a_ (.int .i64 p2.1.1) rfl (a_ (.int .i64 p2.1.2.1) rfl (a_ (.bool p2.1.2.2) rfl (f_nil (f_seq (q_ (m_ (.bool p2.1.2.2) rfl (p_ rfl (s_not rfl) (f_nil ?_))))))))))))
 refine f_if (fun h3 => ?_) (fun h3 => ?_)
 ·refine f_know 30 rfl (bool_notT h3) (f_condF rfl (f_skip (q_ (m_ (.ptr p1.1.1 p1.1.2) rfl (o_bind fun p4 hp4 => p_ rfl (s_callF rfl ok32 (sim32 happ hp4)) (m_ (.tup [.int .i64 p4.1.1, .bool p4.1.2]) rfl (p_ rfl (s_extract (r := .int .i64 p4.1.1) rfl rfl) (p_ rfl (s_extract (r := .bool p4.1.2) rfl rfl) (a_ (.int .i64 p4.1.1) rfl (a_ (.bool p4.1.2) rfl (f_nil (f_seq (f_seq ?_)))))))))))))
  refine f_region (m_ (.bool p4.1.2) rfl (m_ (.int .i64 p2.1.2.1) rfl (p_ rfl (s_gtr rfl rfl) (p_ rfl (s_neB underlying4 rfl rfl) (f_nil ?_)))))
  refine f_if (fun h5 => ?_) (fun h5 => ?_)
  ·refine f_know 39 rfl (bool_notT h5) (f_condF rfl (f_skip (q_ (m_ (.int .i64 a3) rfl (p_ rfl (s_convInt underlying3 underlying46 rfl) (p_ rfl (s_rem rfl rfl (by decide)) (p_ rfl (s_convInt underlying46 underlying3 rfl) (a_ (.int .i64 (w64 (Int.tmod (IntKind.wrap .u64 (a3)) 12))) rfl (n_ (m_ (.ptr p1.1.1 p1.1.2) rfl (m_ (.str a1) rfl (o_ck fun g6 => ?_))))))))))))
   refine p_ rfl (s_addStr rfl rfl g6) (o_ck fun g7 => p_ rfl (s_addStr rfl rfl g7) (m_ (.str a2) rfl (o_ck fun g8 => p_ rfl (s_addStr rfl rfl g8) (o_ck fun g9 => p_ rfl (s_addStr rfl rfl g9) (m_ (.int .i64 (w64 (Int.tmod (IntKind.wrap .u64 (a3)) 12))) rfl (o_bind fun p10 hp10 => o_bind fun x11 hx11 => p_ rfl (s_callA happ rfl hp10) (o_know 53 rfl (asStr_eq hx11) (o_ck fun g12 => p_ rfl (s_addStr rfl rfl g12) (o_bind fun p13 hp13 => ?_)))))))))
   refine p_ rfl (s_callF rfl ok20 (sim20 happ hp13)) (m_ (.tup [.str p13.1.1, .int .i64 p13.1.2]) rfl (p_ rfl (s_extract (r := .str p13.1.1) rfl rfl) (p_ rfl (s_extract (r := .int .i64 p13.1.2) rfl rfl) (a_ (.str p13.1.1) rfl (a_ (.int .i64 p13.1.2) rfl (n_ (m_ (.ptr p1.1.1 p1.1.2) rfl (o_bind fun p14 hp14 => p_ rfl (s_callF rfl ok31 (sim31 happ hp14)) (m_ (.tup [.int .i64 p14.1.1, .int .i64 p14.1.2.1, .bool p14.1.2.2]) rfl (p_ rfl (s_extract (r := .int .i64 p14.1.1) rfl rfl) (p_ rfl (s_extract (r := .int .i64 p14.1.2.1) rfl rfl) (p_ rfl (s_extract (r := .bool p14.1.2.2) rfl rfl) ?_))))))))))))
   refine a_ (.int .i64 p14.1.1) rfl (a_ (.int .i64 p14.1.2.1) rfl (a_ (.bool p14.1.2.2) rfl (f_nil (f_seq (q_ (m_ (.bool p14.1.2.2) rfl (p_ rfl (s_not rfl) (m_ (.bool (!p14.1.2.2)) rfl ?_))))))))
   refine o_if (fun h15 => ?_) (fun h15 => ?_)
   ·exact o_know 66 rfl (bool_notT h15) (m_ (.int .i64 p14.1.1) rfl (m_ (.int .i64 p2.1.1) rfl (p_ rfl (s_neq rfl rfl) (p_ rfl (s_pickF (v := .bool (decide (p14.1.1 ≠ p2.1.1))) rfl rfl) (f_nil (f_keep [1, 2, 3, 9, 10, 13, 16, 70] (s6_j1 happ a1 a2 (w64 (Int.tmod (IntKind.wrap .u64 (a3)) 12)) p1.1.1 p1.1.2 p2.1.1 p4.1.1 p13.1.2 (decide (p14.1.1 ≠ p2.1.1)) p14.2)))))))
   ·exact o_know 66 rfl (bool_notF h15) (no_ rfl (no_ rfl (no_ rfl (p_ rfl (s_pickT (v := .bool true) rfl rfl) (f_nil (f_keep [1, 2, 3, 9, 10, 13, 16, 70] (s6_j1 happ a1 a2 (w64 (Int.tmod (IntKind.wrap .u64 (a3)) 12)) p1.1.1 p1.1.2 p2.1.1 p4.1.1 p13.1.2 true p14.2)))))))
  ·exact f_know 39 rfl (bool_notF h5) (f_condT rfl (q_ (a_ (.bool false) rfl (f_nil (f_ret (.tmp rfl (.nil)) rfl)))))
 ·exact f_know 30 rfl (bool_notF h3) (f_condT rfl (q_ (a_ (.bool false) rfl (f_nil (f_ret (.tmp rfl (.nil)) rfl)))))

/- 91 congou/counts.isSums -/
theorem ok91 : FnOk prog 91 := ⟨⟨f91, func91, by kernel_rfl, rfl⟩⟩
theorem s91_j1 (kt0 : Int → Sl → Int → Int → Hp → Option (Bool × Hp)) (hkt0 : ∀ (v1 : Int) (v2 : Sl) (v3 v4 : Int) (H : Hp), Fin prog f91 ret91 24 (todoAt (bodyOf f91) [1, 1, 0, 1, 0, 0] []) [(3, .int .i64 v1), (6, .sl v2), (7, .int .i64 v3), (8, .int .i64 v4)] H (kt0 v1 v2 v3 v4 H)) (v1 v2 : Int) (v3 : Sl) (v4 v5 : Int) (v6 : Bool) (H : Hp) : Fin prog f91 ret91 24 (todoAt (bodyOf f91) [1, 1, 0, 1, 0, 0, 1, 1, 0, 0, 1, 0, 1] []) [(3, .int .i64 v1), (5, .int .i64 v2), (6, .sl v3), (7, .int .i64 v4), (8, .int .i64 v5), (17, .bool v6)] H (r91_j1 kt0 v1 v2 v3 v4 v5 v6 H) := by
 unfold r91_j1
 refine f_if (fun h1 => ?_) (fun h1 => ?_)
 ·exact bT 17 h1 rfl (q_ (a_ (.bool false) rfl (f_nil (f_ret (.tmp rfl (.nil)) rfl))))
 ·refine bF 17 h1 rfl (f_skip (f_region (m_ (.int .i64 v1) rfl (m_ (.int .i64 v2) rfl (p_ rfl (s_add rfl rfl) (a_ (.int .i64 (w64 (v1 + v2))) rfl (f_nil (f_inBlock (f_region (p_ rfl (s_add rfl rfl) (m_ (.int .i64 (w64 (v5 + 1))) rfl (f_nil (f_inLoop (f_keep [3, 6, 7, 8] ?_))))))))))))))
  exact hkt0 (w64 (v1 + v2)) v3 v4 (w64 (v5 + 1)) H

theorem s91_l0 : ∀ (k_ : Nat) (v1 : Int) (v2 : Sl) (v3 v4 : Int) (H : Hp), Fin prog f91 ret91 24 (todoAt (bodyOf f91) [1, 1, 0, 1, 0, 0] []) [(3, .int .i64 v1), (6, .sl v2), (7, .int .i64 v3), (8, .int .i64 v4)] H (r91_l0 k_ v1 v2 v3 v4 H) := by
 intro k_
 induction k_ with
 | zero => intro _ _ _ _ _; exact f_none
 | succ k_ ih =>
  intro v1 v2 v3 v4 H
  rw [r91_l0]
  refine q_ (p_ rfl (s_lss rfl rfl) (f_nil (f_seq ?_)))
  refine f_if (fun h1 => ?_) (fun h1 => ?_)
  ·refine kT 9 h1 rfl (f_skip (f_seq (f_block (q_ (o_ck fun g2 => p_ rfl (s_idx underlying25 ty3 rfl rfl g2) (o_bind fun x3 hx3 => p_ rfl (s_load underlying3 rfl rfl (ldI_eq hx3)) (a_ (.int .i64 x3) rfl (f_nil (f_seq (q_ ?_))))))))))
   refine m_ (.int .i64 x3) rfl (p_ rfl (s_lss rfl rfl) (m_ (.bool (decide (x3 < 0))) rfl ?_))
   refine o_if (fun h4 => ?_) (fun h4 => ?_)
   ·exact o_know 14 rfl (dec_true h4) (no_ rfl (no_ rfl (p_ rfl (s_pickT (v := .bool true) rfl rfl) (f_nil (f_keep [3, 5, 6, 7, 8, 17] (s91_j1 _ ih v1 x3 v2 v3 v4 true H))))))
   ·exact o_know 14 rfl (dec_false h4) (m_ (.int .i64 x3) rfl (p_ rfl (s_gtr rfl rfl) (p_ rfl (s_pickF (v := .bool (decide (16 < x3))) rfl rfl) (f_nil (f_keep [3, 5, 6, 7, 8, 17] (s91_j1 _ ih v1 x3 v2 v3 v4 (decide (16 < x3)) H))))))
  ·exact kF 9 h1 rfl (f_exit rfl (q_ (m_ (.int .i64 v1) rfl (p_ rfl (s_leq rfl rfl) (a_ (.bool (decide (v1 ≤ 16))) rfl (f_nil (f_ret (.tmp rfl (.nil)) rfl)))))))

theorem sim91 {a0 : Sl} {H : Hp} {p : Bool × Hp} (h : r91 a0 H = some p) : CallSim prog 91 [.sl a0] H (.bool p.1) p.2 := by
 refine callSim (fn := f91) (ret := ret91) func91 rfl Tryz.ntmps91 rfl ?_ h
 unfold r91
 refine q_ (a_ (.bool false) rfl (n_ (a_ (.int .i64 0) rfl (f_nil (f_seq (q_ (m_ (.sl a0) rfl (p_ rfl (s_lenS rfl underlying25 rfl) (m_ (.int .i64 0) rfl (f_nil (f_block ?_)))))))))))
 exact f_loop (f_keep [3, 6, 7, 8] (s91_l0 FUEL 0 a0 (a0.len : Int) 0 H))

/- 54 (congou/counts.table).valid -/
theorem ok54 : FnOk prog 54 := ⟨⟨f54, func54, by kernel_rfl, rfl⟩⟩
theorem s54_l3 (kt1 : Sl → Int → Sl → Int → Int → Hp → Option (Bool × Hp)) (hkt1 : ∀ (v1 : Sl) (v2 : Int) (v3 : Sl) (v4 v5 : Int) (H : Hp), Fin prog f54 ret54 57 (todoAt (bodyOf f54) [1, 1, 1, 0, 1, 0, 0] []) [(0, .sl v1), (3, .int .i64 v2), (16, .sl v3), (17, .int .i64 v4), (18, .int .i64 v5)] H (kt1 v1 v2 v3 v4 v5 H)) : ∀ (k_ : Nat) (v1 : Sl) (v2 : Int) (v3 : Sl) (v4 v5 : Int) (v6 : Sl) (v7 v8 : Int) (H : Hp), Fin prog f54 ret54 57 (todoAt (bodyOf f54) [1, 1, 1, 0, 1, 0, 0, 1, 1, 0, 0, 1, 1, 1, 0, 0] []) [(0, .sl v1), (3, .int .i64 v2), (16, .sl v3), (17, .int .i64 v4), (18, .int .i64 v5), (44, .sl v6), (45, .int .i64 v7), (46, .int .i64 v8)] H (r54_l3 kt1 k_ v1 v2 v3 v4 v5 v6 v7 v8 H) := by
 intro k_
 induction k_ with
 | zero => intro _ _ _ _ _ _ _ _ _; exact f_none
 | succ k_ ih =>
  intro v1 v2 v3 v4 v5 v6 v7 v8 H
  rw [r54_l3]
  refine q_ (p_ rfl (s_lss rfl rfl) (f_nil (f_seq ?_)))
  refine f_if (fun h1 => ?_) (fun h1 => ?_)
  ·refine kT 47 h1 rfl (f_skip (f_seq (f_block (q_ (o_ck fun g2 => p_ rfl (s_idx underlying25 ty3 rfl rfl g2) (o_bind fun x3 hx3 => p_ rfl (s_load underlying3 rfl rfl (ldI_eq hx3)) (a_ (.int .i64 x3) rfl (f_nil (f_region (m_ (.int .i64 v2) rfl (m_ (.int .i64 x3) rfl ?_)))))))))))
   exact p_ rfl (s_add rfl rfl) (a_ (.int .i64 (w64 (v2 + x3))) rfl (f_nil (f_inBlock (f_region (p_ rfl (s_add rfl rfl) (m_ (.int .i64 (w64 (v8 + 1))) rfl (f_nil (f_inLoop (f_keep [0, 3, 16, 17, 18, 44, 45, 46] (ih v1 (w64 (v2 + x3)) v3 v4 v5 v6 v7 (w64 (v8 + 1)) H))))))))))
  ·exact kF 47 h1 rfl (f_exit rfl (f_inBlock (f_region (p_ rfl (s_add rfl rfl) (m_ (.int .i64 (w64 (v5 + 1))) rfl (f_nil (f_inLoop (f_keep [0, 3, 16, 17, 18] (hkt1 v1 v2 v3 v4 (w64 (v5 + 1)) H)))))))))

theorem s54_j2 (kt1 : Sl → Int → Sl → Int → Int → Hp → Option (Bool × Hp)) (hkt1 : ∀ (v1 : Sl) (v2 : Int) (v3 : Sl) (v4 v5 : Int) (H : Hp), Fin prog f54 ret54 57 (todoAt (bodyOf f54) [1, 1, 1, 0, 1, 0, 0] []) [(0, .sl v1), (3, .int .i64 v2), (16, .sl v3), (17, .int .i64 v4), (18, .int .i64 v5)] H (kt1 v1 v2 v3 v4 v5 H)) (v1 : Sl) (v2 : Int) (v3 v4 : Sl) (v5 v6 : Int) (v7 : Bool) (H : Hp) : Fin prog f54 ret54 57 (todoAt (bodyOf f54) [1, 1, 1, 0, 1, 0, 0, 1, 1, 0, 0, 1, 0, 1] []) [(0, .sl v1), (3, .int .i64 v2), (5, .sl v3), (16, .sl v4), (17, .int .i64 v5), (18, .int .i64 v6), (43, .bool v7)] H (r54_j2 kt1 v1 v2 v3 v4 v5 v6 v7 H) := by
 unfold r54_j2
 refine f_if (fun h1 => ?_) (fun h1 => ?_)
 ·exact bT 43 h1 rfl (q_ (a_ (.bool false) rfl (f_nil (f_ret (.tmp rfl (.nil)) rfl))))
 ·exact bF 43 h1 rfl (f_skip (q_ (m_ (.sl v3) rfl (p_ rfl (s_lenS rfl underlying25 rfl) (m_ (.int .i64 0) rfl (f_nil (f_block (f_loop (f_keep [0, 3, 16, 17, 18, 44, 45, 46] (s54_l3 _ hkt1 FUEL v1 v2 v4 v5 v6 v3 (v3.len : Int) 0 H))))))))))

theorem s54_l1 : ∀ (k_ : Nat) (v1 : Sl) (v2 : Int) (v3 : Sl) (v4 v5 : Int) (H : Hp), Fin prog f54 ret54 57 (todoAt (bodyOf f54) [1, 1, 1, 0, 1, 0, 0] []) [(0, .sl v1), (3, .int .i64 v2), (16, .sl v3), (17, .int .i64 v4), (18, .int .i64 v5)] H (r54_l1 k_ v1 v2 v3 v4 v5 H) := by
 intro k_
 induction k_ with
 | zero => intro _ _ _ _ _ _; exact f_none
 | succ k_ ih =>
  intro v1 v2 v3 v4 v5 H
  rw [r54_l1]
  refine q_ (p_ rfl (s_lss rfl rfl) (f_nil (f_seq ?_)))
  refine f_if (fun h1 => ?_) (fun h1 => ?_)
  ·refine kT 19 h1 rfl (f_skip (f_seq (f_block (q_ (o_ck fun g2 => p_ rfl (s_idx underlying102 ty25 rfl rfl g2) (o_bind fun x3 hx3 => p_ rfl (s_load underlying25 rfl rfl (ldSl_eq hx3)) (a_ (.sl x3) rfl (f_nil (f_seq (q_ ?_))))))))))
   refine m_ (.sl x3) rfl (p_ rfl (s_lenS rfl underlying25 rfl) (p_ rfl (s_lss rfl rfl) (m_ (.bool (decide ((x3.len : Int) < 1))) rfl ?_)))
   refine o_if (fun h4 => ?_) (fun h4 => ?_)
   ·refine o_know 25 rfl (dec_true h4) (no_ rfl (no_ rfl (no_ rfl (p_ rfl (s_pickT (v := .bool true) rfl rfl) (m_ (.bool true) rfl (no_ rfl (no_ rfl (no_ rfl (no_ rfl (no_ rfl (no_ rfl (no_ rfl (p_ rfl (s_pickT (v := .bool true) rfl rfl) (m_ (.bool true) rfl (no_ rfl ?_)))))))))))))))
    exact no_ rfl (no_ rfl (p_ rfl (s_pickT (v := .bool true) rfl rfl) (f_nil (f_keep [0, 3, 5, 16, 17, 18, 43] (s54_j2 _ ih v1 v2 x3 v3 v4 v5 true H)))))
   ·refine o_know 25 rfl (dec_false h4) (m_ (.sl x3) rfl (p_ rfl (s_lenS rfl underlying25 rfl) (p_ rfl (s_gtr rfl rfl) (p_ rfl (s_pickF (v := .bool (decide (3 < (x3.len : Int)))) rfl rfl) (m_ (.bool (decide (3 < (x3.len : Int)))) rfl ?_)))))
    refine o_if (fun h5 => ?_) (fun h5 => ?_)
    ·refine o_know 30 rfl (dec_true h5) (no_ rfl (no_ rfl (no_ rfl (no_ rfl (no_ rfl (no_ rfl (no_ rfl (p_ rfl (s_pickT (v := .bool true) rfl rfl) (m_ (.bool true) rfl (no_ rfl (no_ rfl (no_ rfl (p_ rfl (s_pickT (v := .bool true) rfl rfl) (f_nil (f_keep [0, 3, 5, 16, 17, 18, 43] ?_)))))))))))))))
     exact s54_j2 _ ih v1 v2 x3 v3 v4 v5 true H
    ·refine o_know 30 rfl (dec_false h5) (m_ (.sl x3) rfl (p_ rfl (s_lenS rfl underlying25 rfl) (m_ (.sl v1) rfl (o_ck fun g6 => p_ rfl (s_idx underlying102 ty25 rfl rfl g6) (o_bind fun x7 hx7 => p_ rfl (s_load underlying25 rfl rfl (ldSl_eq hx7)) (p_ rfl (s_lenS rfl underlying25 rfl) (p_ rfl (s_neq rfl rfl) (p_ rfl (s_pickF (v := .bool (decide ((x3.len : Int) ≠ (x7.len : Int)))) rfl rfl) (m_ (.bool (decide ((x3.len : Int) ≠ (x7.len : Int)))) rfl ?_)))))))))
     refine o_if (fun h8 => ?_) (fun h8 => ?_)
     ·exact o_know 39 rfl (dec_true h8) (no_ rfl (no_ rfl (no_ rfl (p_ rfl (s_pickT (v := .bool true) rfl rfl) (f_nil (f_keep [0, 3, 5, 16, 17, 18, 43] (s54_j2 _ ih v1 v2 x3 v3 v4 v5 true H)))))))
     ·exact o_know 39 rfl (dec_false h8) (m_ (.sl x3) rfl (o_bind fun p9 hp9 => p_ rfl (s_callF rfl ok91 (sim91 hp9)) (p_ rfl (s_not rfl) (p_ rfl (s_pickF (v := .bool (!p9.1)) rfl rfl) (f_nil (f_keep [0, 3, 5, 16, 17, 18, 43] (s54_j2 _ ih v1 v2 x3 v3 v4 v5 (!p9.1) p9.2)))))))
  ·exact kF 19 h1 rfl (f_exit rfl (q_ (m_ (.int .i64 v2) rfl (p_ rfl (s_leq rfl rfl) (a_ (.bool (decide (v2 ≤ 16))) rfl (f_nil (f_ret (.tmp rfl (.nil)) rfl)))))))

theorem s54_j0 (v1 : Sl) (v2 : Bool) (H : Hp) : Fin prog f54 ret54 57 (todoAt (bodyOf f54) [1, 0, 1] []) [(0, .sl v1), (15, .bool v2)] H (r54_j0 v1 v2 H) := by
 unfold r54_j0
 refine f_if (fun h1 => ?_) (fun h1 => ?_)
 ·exact bT 15 h1 rfl (q_ (a_ (.bool false) rfl (f_nil (f_ret (.tmp rfl (.nil)) rfl))))
 ·refine bF 15 h1 rfl (f_skip (q_ (a_ (.int .i64 0) rfl (f_nil (f_seq (q_ (m_ (.sl v1) rfl (p_ rfl (s_lenS rfl underlying102 rfl) (m_ (.int .i64 0) rfl (f_nil (f_block (f_loop ?_))))))))))))
  exact f_keep [0, 3, 16, 17, 18] (s54_l1 FUEL v1 0 v1 (v1.len : Int) 0 H)

theorem sim54 {a0 : Sl} {H : Hp} {p : Bool × Hp} (h : r54 a0 H = some p) : CallSim prog 54 [.sl a0] H (.bool p.1) p.2 := by
 refine callSim (fn := f54) (ret := ret54) func54 rfl Tryz.ntmps54 rfl ?_ h
 unfold r54
 refine q_ (a_ (.bool false) rfl (f_nil (f_seq (q_ (m_ (.sl a0) rfl (p_ rfl (s_lenS rfl underlying102 rfl) (p_ rfl (s_lss rfl rfl) (m_ (.bool (decide ((a0.len : Int) < 1))) rfl ?_))))))))
 refine o_if (fun h1 => ?_) (fun h1 => ?_)
 ·exact o_know 11 rfl (dec_true h1) (no_ rfl (no_ rfl (no_ rfl (p_ rfl (s_pickT (v := .bool true) rfl rfl) (f_nil (f_keep [0, 15] (s54_j0 a0 true H)))))))
 ·exact o_know 11 rfl (dec_false h1) (m_ (.sl a0) rfl (p_ rfl (s_lenS rfl underlying102 rfl) (p_ rfl (s_gtr rfl rfl) (p_ rfl (s_pickF (v := .bool (decide (3 < (a0.len : Int)))) rfl rfl) (f_nil (f_keep [0, 15] (s54_j0 a0 (decide (3 < (a0.len : Int))) H)))))))

/- 59 congou/counts.choose -/
theorem ok59 : FnOk prog 59 := ⟨⟨f59, func59, by kernel_rfl, rfl⟩⟩
theorem s59_l1 (kt0 : Int → Int → Sl → Int → Int → Hp → Option (Int × Hp)) (hkt0 : ∀ (v1 v2 : Int) (v3 : Sl) (v4 v5 : Int) (H : Hp), Fin prog f59 ret59 28 (todoAt (bodyOf f59) [1, 1, 0, 1, 0, 0] []) [(3, .int .i64 v1), (4, .int .i64 v2), (8, .sl v3), (9, .int .i64 v4), (10, .int .i64 v5)] H (kt0 v1 v2 v3 v4 v5 H)) : ∀ (k_ : Nat) (v1 v2 v3 v4 : Int) (v5 : Sl) (v6 v7 : Int) (H : Hp), Fin prog f59 ret59 28 (todoAt (bodyOf f59) [1, 1, 0, 1, 0, 0, 1, 1, 0, 0, 1, 1, 0, 0] []) [(3, .int .i64 v1), (4, .int .i64 v2), (6, .int .i64 v3), (7, .int .i64 v4), (8, .sl v5), (9, .int .i64 v6), (10, .int .i64 v7)] H (r59_l1 kt0 k_ v1 v2 v3 v4 v5 v6 v7 H) := by
 intro k_
 induction k_ with
 | zero => intro _ _ _ _ _ _ _ _; exact f_none
 | succ k_ ih =>
  intro v1 v2 v3 v4 v5 v6 v7 H
  rw [r59_l1]
  refine f_seq (q_ (m_ (.int .i64 v4) rfl (m_ (.int .i64 v3) rfl (p_ rfl (s_leq rfl rfl) (f_nil ?_)))))
  refine f_if (fun h1 => ?_) (fun h1 => ?_)
  ·refine kT 16 h1 rfl (f_skip (f_seq (f_block (q_ (m_ (.int .i64 v2) rfl (p_ rfl (s_add rfl rfl) (a_ (.int .i64 (w64 (v2 + 1))) rfl (f_nil (f_region (m_ (.int .i64 v1) rfl (m_ (.int .i64 (w64 (v2 + 1))) rfl (p_ rfl (s_mul rfl rfl) (m_ (.int .i64 v4) rfl ?_)))))))))))))
   exact o_ck fun g2 => p_ rfl (s_quo rfl rfl g2) (a_ (.int .i64 (w64 (Int.tdiv (w64 (v1 * (w64 (v2 + 1)))) v4))) rfl (f_nil (f_inBlock (f_region (m_ (.int .i64 v4) rfl (p_ rfl (s_add rfl rfl) (a_ (.int .i64 (w64 (v4 + 1))) rfl (f_nil (f_inLoop (f_keep [3, 4, 6, 7, 8, 9, 10] (ih (w64 (Int.tdiv (w64 (v1 * (w64 (v2 + 1)))) v4)) (w64 (v2 + 1)) v3 (w64 (v4 + 1)) v5 v6 v7 H)))))))))))
  ·exact kF 16 h1 rfl (f_exit rfl (f_inBlock (f_region (p_ rfl (s_add rfl rfl) (m_ (.int .i64 (w64 (v7 + 1))) rfl (f_nil (f_inLoop (f_keep [3, 4, 8, 9, 10] (hkt0 v1 v2 v5 v6 (w64 (v7 + 1)) H)))))))))

theorem s59_l0 : ∀ (k_ : Nat) (v1 v2 : Int) (v3 : Sl) (v4 v5 : Int) (H : Hp), Fin prog f59 ret59 28 (todoAt (bodyOf f59) [1, 1, 0, 1, 0, 0] []) [(3, .int .i64 v1), (4, .int .i64 v2), (8, .sl v3), (9, .int .i64 v4), (10, .int .i64 v5)] H (r59_l0 k_ v1 v2 v3 v4 v5 H) := by
 intro k_
 induction k_ with
 | zero => intro _ _ _ _ _ _; exact f_none
 | succ k_ ih =>
  intro v1 v2 v3 v4 v5 H
  rw [r59_l0]
  refine q_ (p_ rfl (s_lss rfl rfl) (f_nil (f_seq ?_)))
  refine f_if (fun h1 => ?_) (fun h1 => ?_)
  ·refine kT 11 h1 rfl (f_skip (f_seq (f_block (q_ (o_ck fun g2 => p_ rfl (s_idx underlying25 ty3 rfl rfl g2) (o_bind fun x3 hx3 => p_ rfl (s_load underlying3 rfl rfl (ldI_eq hx3)) (a_ (.int .i64 x3) rfl (n_ (a_ (.int .i64 1) rfl ?_)))))))))
   exact f_nil (f_block (f_loop (f_keep [3, 4, 6, 7, 8, 9, 10] (s59_l1 _ ih FUEL v1 v2 x3 1 v3 v4 v5 H))))
  ·exact kF 11 h1 rfl (f_exit rfl (q_ (m_ (.int .i64 v1) rfl (a_ (.int .i64 v1) rfl (f_nil (f_ret (.tmp rfl (.nil)) rfl))))))

theorem sim59 {a0 : Sl} {H : Hp} {p : Int × Hp} (h : r59 a0 H = some p) : CallSim prog 59 [.sl a0] H (.int .i64 p.1) p.2 := by
 refine callSim (fn := f59) (ret := ret59) func59 rfl Tryz.ntmps59 rfl ?_ h
 unfold r59
 refine q_ (a_ (.int .i64 0) rfl (n_ (a_ (.int .i64 1) rfl (a_ (.int .i64 0) rfl (f_nil (f_seq (q_ (m_ (.sl a0) rfl (p_ rfl (s_lenS rfl underlying25 rfl) (m_ (.int .i64 0) rfl (f_nil ?_)))))))))))
 exact f_block (f_loop (f_keep [3, 4, 8, 9, 10] (s59_l0 FUEL 1 0 a0 (a0.len : Int) 0 H)))

/- 55 (congou/counts.table).weight -/
theorem ok55 : FnOk prog 55 := ⟨⟨f55, func55, by kernel_rfl, rfl⟩⟩
theorem s55_l0 : ∀ (k_ : Nat) (v1 : Int) (v2 : Sl) (v3 v4 : Int) (H : Hp), Fin prog f55 ret55 18 (todoAt (bodyOf f55) [1, 1, 0, 1, 0, 0] []) [(3, .int .i64 v1), (6, .sl v2), (7, .int .i64 v3), (8, .int .i64 v4)] H (r55_l0 k_ v1 v2 v3 v4 H) := by
 intro k_
 induction k_ with
 | zero => intro _ _ _ _ _; exact f_none
 | succ k_ ih =>
  intro v1 v2 v3 v4 H
  rw [r55_l0]
  refine q_ (p_ rfl (s_lss rfl rfl) (f_nil (f_seq ?_)))
  refine f_if (fun h1 => ?_) (fun h1 => ?_)
  ·refine kT 9 h1 rfl (f_skip (f_seq (f_block (q_ (o_ck fun g2 => p_ rfl (s_idx underlying102 ty25 rfl rfl g2) (o_bind fun x3 hx3 => p_ rfl (s_load underlying25 rfl rfl (ldSl_eq hx3)) (a_ (.sl x3) rfl (f_nil (f_region (m_ (.int .i64 v1) rfl (m_ (.sl x3) rfl ?_)))))))))))
   exact o_bind fun p4 hp4 => p_ rfl (s_callF rfl ok59 (sim59 hp4)) (p_ rfl (s_mul rfl rfl) (a_ (.int .i64 (w64 (v1 * p4.1))) rfl (f_nil (f_inBlock (f_region (p_ rfl (s_add rfl rfl) (m_ (.int .i64 (w64 (v4 + 1))) rfl (f_nil (f_inLoop (f_keep [3, 6, 7, 8] (ih (w64 (v1 * p4.1)) v2 v3 (w64 (v4 + 1)) p4.2)))))))))))
  ·exact kF 9 h1 rfl (f_exit rfl (q_ (m_ (.int .i64 v1) rfl (a_ (.int .i64 v1) rfl (f_nil (f_ret (.tmp rfl (.nil)) rfl))))))

theorem sim55 {a0 : Sl} {H : Hp} {p : Int × Hp} (h : r55 a0 H = some p) : CallSim prog 55 [.sl a0] H (.int .i64 p.1) p.2 := by
 refine callSim (fn := f55) (ret := ret55) func55 rfl Tryz.ntmps55 rfl ?_ h
 unfold r55
 refine q_ (a_ (.int .i64 0) rfl (n_ (a_ (.int .i64 1) rfl (f_nil (f_seq (q_ (m_ (.sl a0) rfl (p_ rfl (s_lenS rfl underlying102 rfl) (m_ (.int .i64 0) rfl (f_nil (f_block ?_)))))))))))
 exact f_loop (f_keep [3, 6, 7, 8] (s55_l0 FUEL 1 a0 (a0.len : Int) 0 H))

/- 92 (congou/counts.table).sums -/
theorem ok92 : FnOk prog 92 := ⟨⟨f92, func92, by kernel_rfl, rfl⟩⟩
theorem s92_l1 (kt0 : Sl → Sl → Sl → Int → Int → Hp → Option ((Sl × Sl) × Hp)) (hkt0 : ∀ (v1 v2 v3 : Sl) (v4 v5 : Int) (H : Hp), Fin prog f92 ret92 45 (todoAt (bodyOf f92) [1, 1, 0, 1, 0, 0] []) [(2, .sl v1), (3, .sl v2), (14, .sl v3), (15, .int .i64 v4), (16, .int .i64 v5)] H (kt0 v1 v2 v3 v4 v5 H)) : ∀ (k_ : Nat) (v1 v2 : Sl) (v3 : Int) (v4 : Sl) (v5 v6 : Int) (v7 : Sl) (v8 v9 : Int) (H : Hp), Fin prog f92 ret92 45 (todoAt (bodyOf f92) [1, 1, 0, 1, 0, 0, 1, 1, 0, 0, 1, 1, 0, 1, 0, 0] []) [(2, .sl v1), (3, .sl v2), (6, .int .i64 v3), (14, .sl v4), (15, .int .i64 v5), (16, .int .i64 v6), (20, .sl v7), (21, .int .i64 v8), (22, .int .i64 v9)] H (r92_l1 kt0 k_ v1 v2 v3 v4 v5 v6 v7 v8 v9 H) := by
 intro k_
 induction k_ with
 | zero => intro _ _ _ _ _ _ _ _ _ _; exact f_none
 | succ k_ ih =>
  intro v1 v2 v3 v4 v5 v6 v7 v8 v9 H
  rw [r92_l1]
  refine q_ (p_ rfl (s_lss rfl rfl) (f_nil (f_seq ?_)))
  refine f_if (fun h1 => ?_) (fun h1 => ?_)
  ·refine kT 23 h1 rfl (f_skip (f_seq (f_block (q_ (m_ (.int .i64 v9) rfl (o_ck fun g2 => p_ rfl (s_idx underlying25 ty3 rfl rfl g2) (o_bind fun x3 hx3 => p_ rfl (s_load underlying3 rfl rfl (ldI_eq hx3)) (a_ (.int .i64 v9) rfl (a_ (.int .i64 x3) rfl (f_nil (f_seq ?_)))))))))))
   refine f_region (m_ (.int .i64 v3) rfl (m_ (.int .i64 x3) rfl (p_ rfl (s_add rfl rfl) (a_ (.int .i64 (w64 (v3 + x3))) rfl (f_nil (f_region (m_ (.sl v2) rfl (m_ (.int .i64 v9) rfl (o_ck fun g4 => p_ rfl (s_idx underlying25 ty3 rfl rfl g4) (o_bind fun x5 hx5 => p_ rfl (s_load underlying3 rfl rfl (ldI_eq hx5)) (m_ (.int .i64 x3) rfl (p_ rfl (s_add rfl rfl) (o_ck fun g6 => ?_)))))))))))))
   exact p_ rfl (s_idx underlying25 ty3 rfl rfl g6) (o_bind fun H7 hH7 => p_ rfl (s_store (s := 1) ty3 rfl rfl rfl hH7) (f_nil (f_inBlock (f_region (p_ rfl (s_add rfl rfl) (m_ (.int .i64 (w64 (v9 + 1))) rfl (f_nil (f_inLoop (f_keep [2, 3, 6, 14, 15, 16, 20, 21, 22] (ih v1 v2 (w64 (v3 + x3)) v4 v5 v6 v7 v8 (w64 (v9 + 1)) H7))))))))))
  ·refine kF 23 h1 rfl (f_exit rfl (f_region (m_ (.sl v1) rfl (m_ (.int .i64 v3) rfl (p_ rfl (s_buildSlice (cs := [.int .i64 v3]) underlying25 ty3 (by decide) (by decide) rfl (by decide) rfl) (o_bind fun x8 hx8 => p_ rfl (s_ap rfl rfl underlying25 underlying25 ty3 rfl rfl rfl rfl rfl rfl rfl hx8) (a_ (.sl x8.1) rfl (f_nil (f_inBlock (f_region (p_ rfl (s_add rfl rfl) (m_ (.int .i64 (w64 (v6 + 1))) rfl (f_nil ?_)))))))))))))
   exact f_inLoop (f_keep [2, 3, 14, 15, 16] (hkt0 x8.1 v2 v4 v5 (w64 (v6 + 1)) x8.2))

theorem s92_l0 : ∀ (k_ : Nat) (v1 v2 v3 : Sl) (v4 v5 : Int) (H : Hp), Fin prog f92 ret92 45 (todoAt (bodyOf f92) [1, 1, 0, 1, 0, 0] []) [(2, .sl v1), (3, .sl v2), (14, .sl v3), (15, .int .i64 v4), (16, .int .i64 v5)] H (r92_l0 k_ v1 v2 v3 v4 v5 H) := by
 intro k_
 induction k_ with
 | zero => intro _ _ _ _ _ _; exact f_none
 | succ k_ ih =>
  intro v1 v2 v3 v4 v5 H
  rw [r92_l0]
  refine q_ (p_ rfl (s_lss rfl rfl) (f_nil (f_seq ?_)))
  refine f_if (fun h1 => ?_) (fun h1 => ?_)
  ·refine kT 17 h1 rfl (f_skip (f_seq (f_block (q_ (o_ck fun g2 => p_ rfl (s_idx underlying102 ty25 rfl rfl g2) (o_bind fun x3 hx3 => p_ rfl (s_load underlying25 rfl rfl (ldSl_eq hx3)) (a_ (.sl x3) rfl (n_ (a_ (.int .i64 0) rfl ?_)))))))))
   exact f_nil (f_seq (q_ (m_ (.sl x3) rfl (p_ rfl (s_lenS rfl underlying25 rfl) (m_ (.int .i64 0) rfl (f_nil (f_block (f_loop (f_keep [2, 3, 6, 14, 15, 16, 20, 21, 22] (s92_l1 _ ih FUEL v1 v2 0 v3 v4 v5 x3 (x3.len : Int) 0 H))))))))))
  ·exact kF 17 h1 rfl (f_exit rfl (q_ (m_ (.sl v1) rfl (m_ (.sl v2) rfl (a_ (.sl v1) rfl (a_ (.sl v2) rfl (f_nil (f_ret (.tmp rfl (.tmp rfl (.nil))) rfl))))))))

theorem sim92 {a0 : Sl} {H : Hp} {p : (Sl × Sl) × Hp} (h : r92 a0 H = some p) : CallSim prog 92 [.sl a0] H (.tup [.sl p.1.1, .sl p.1.2]) p.2 := by
 refine callSim (fn := f92) (ret := ret92) func92 rfl Tryz.ntmps92 rfl ?_ h
 unfold r92
 refine q_ (a_ (.sl ⟨true, 0, 0, 0, 0, 0⟩) rfl (a_ (.sl ⟨true, 0, 0, 0, 0, 0⟩) rfl (n_ (m_ (.sl a0) rfl (o_ck fun g1 => p_ rfl (s_idx underlying102 ty25 rfl rfl g1) (o_bind fun x2 hx2 => p_ rfl (s_load underlying25 rfl rfl (ldSl_eq hx2)) (p_ rfl (s_lenS rfl underlying25 rfl) (o_ck fun g3 => p_ rfl (s_makeSlice underlying25 ty3 rfl rfl (by decide) (by decide) rfl rfl g3) (a_ (.sl ⟨false, H.n, 0, ((x2.len : Int) : Int).toNat, ((x2.len : Int) : Int).toNat, 0⟩) rfl ?_)))))))))
 exact o_hp fun H4 hH4 => f_nil (f_seq (q_ (m_ (.sl a0) rfl (p_ rfl (s_lenS rfl underlying102 rfl) (m_ (.int .i64 0) rfl (f_nil (f_block (f_loop (f_keep [2, 3, 14, 15, 16] (s92_l0 FUEL ⟨true, 0, 0, 0, 0, 0⟩ ⟨false, H.n, 0, ((x2.len : Int) : Int).toNat, ((x2.len : Int) : Int).toNat, 0⟩ a0 (a0.len : Int) 0 H4))))))))))

/- 56 (congou/counts.table).family -/
theorem ok56 : FnOk prog 56 := ⟨⟨f56, func56, by kernel_rfl, rfl⟩⟩
theorem sim56 {a0 : Sl} {H : Hp} {p : (Sl × Sl) × Hp} (h : r56 a0 H = some p) : CallSim prog 56 [.sl a0] H (.agg [.sl p.1.1, .sl p.1.2]) p.2 := by
 refine callSim (fn := f56) (ret := ret56) func56 rfl Tryz.ntmps56 rfl ?_ h
 unfold r56
 refine q_ (p_ rfl (s_alloc (zs := [.sl ⟨true, 0, 0, 0, 0, 0⟩, .sl ⟨true, 0, 0, 0, 0, 0⟩]) ty105 rfl rfl) (o_hp fun H1 hH1 => n_ (m_ (.sl a0) rfl (o_bind fun p2 hp2 => p_ rfl (s_callF rfl ok92 (sim92 hp2)) (m_ (.tup [.sl p2.1.1, .sl p2.1.2]) rfl (p_ rfl (s_extract (r := .sl p2.1.1) rfl rfl) (p_ rfl (s_extract (r := .sl p2.1.2) rfl rfl) (a_ (.sl p2.1.1) rfl (a_ (.sl p2.1.2) rfl (f_nil ?_))))))))))
 exact q_ (m_ (.sl p2.1.1) rfl (m_ (.sl p2.1.2) rfl (p_ rfl (s_build (cs := [.sl p2.1.1, .sl p2.1.2]) underlying105 ty105 rfl pl105 rfl) (o_bind fun H3 hH3 => p_ rfl (s_stores ty105 rfl rfl rfl rfl hH3 (Nat.le_of_eq (sts_mono hH3).symm)) (f_nil (f_bind fun x4 hx4 => f_bind fun x5 hx5 => f_ret (.cells underlying105 rfl sz105 rfl (lds_cons (ldSl_eq hx4) (lds_cons (ldSl_eq hx5) (lds_nil))) (.nil)) rfl))))))

end Go.Lt.P10
