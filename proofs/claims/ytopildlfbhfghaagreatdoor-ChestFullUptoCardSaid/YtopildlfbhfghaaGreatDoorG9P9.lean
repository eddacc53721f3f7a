/- PRINTED BY A PROGRAM OF OURS: what each function that 'ChestFull' reaches computes on the abstract heap, and that the translated code does just that. Nothing is asked of the input. -/
import Derived.Test.YtopildlfbhfghaaGreatDoorG9P8
set_option linter.unusedVariables false
set_option linter.unusedSimpArgs false
set_option maxRecDepth 100000
set_option maxHeartbeats 4000000
namespace Go.Lt.P10
open Go Go.Lt Go.Proofs Go.Proofs.Tryz
/- 9 congou/congoulaw10.ChestFull -/
theorem ok9 : FnOk prog 9 := ⟨⟨f9, func9, by kernel_rfl, rfl⟩⟩
theorem s9_j2 {app : App} (happ : AppSim prog app) (kt1 : ByteArray → Nat → Nat → Nat → Nat → Int → Int → Hp → Option (Bool × Hp)) (hkt1 : ∀ (v1 : ByteArray) (v2 v3 v4 v5 : Nat) (v6 v7 : Int) (H : Hp), Fin prog f9 ret9 133 (todoAt (bodyOf f9) [1, 1, 1, 1, 0, 1, 0, 0] []) [(1, .str v1), (5, .ptr v2 v3), (6, .ptr v4 v5), (40, .int .i64 v6), (41, .int .i64 v7)] H (kt1 v1 v2 v3 v4 v5 v6 v7 H)) (v1 : ByteArray) (v2 v3 v4 v5 : Nat) (v6 v7 : Int) (v8 : Bool) (H : Hp) : Fin prog f9 ret9 133 (todoAt (bodyOf f9) [1, 1, 1, 1, 0, 1, 0, 0, 1, 1, 0, 0, 1, 1, 1, 1, 1, 1] []) [(1, .str v1), (5, .ptr v2 v3), (6, .ptr v4 v5), (40, .int .i64 v6), (41, .int .i64 v7), (77, .bool v8)] H (r9_j2 app kt1 v1 v2 v3 v4 v5 v6 v7 v8 H) := by
  unfold r9_j2
  refine f_if (fun h1 => ?_) (fun h1 => ?_)
  · exact bT 77 h1 rfl (q_ (a_ (.bool false) rfl (f_nil (f_ret (.tmp rfl (.nil)) rfl))))
  · exact bF 77 h1 rfl (f_skip (f_inBlock (f_region (p_ rfl (s_add rfl rfl) (m_ (.int .i64 (w64 (v7 + 1))) rfl (f_nil (f_inLoop (f_keep [1, 5, 6, 40, 41] (hkt1 v1 v2 v3 v4 v5 v6 (w64 (v7 + 1)) H)))))))))

theorem s9_j3 {app : App} (happ : AppSim prog app) (v1 : ByteArray) (v2 v3 v4 v5 : Nat) (v6 : Bool) (H : Hp) : Fin prog f9 ret9 133 (todoAt (bodyOf f9) [1, 1, 1, 1, 1, 1, 0, 1] []) [(1, .str v1), (5, .ptr v2 v3), (6, .ptr v4 v5), (104, .bool v6)] H (r9_j3 app v1 v2 v3 v4 v5 v6 H) := by
  unfold r9_j3
  refine f_if (fun h1 => ?_) (fun h1 => ?_)
  · exact bT 104 h1 rfl (q_ (a_ (.bool false) rfl (f_nil (f_ret (.tmp rfl (.nil)) rfl))))
  · refine bF 104 h1 rfl (f_skip (q_ (m_ (.ptr v2 v3) rfl (m_ (.str v1) rfl (o_bind fun p2 hp2 => p_ rfl (s_callF rfl ok20 (sim20 happ hp2)) (m_ (.tup [.str p2.1.1, .int .i64 p2.1.2]) rfl (p_ rfl (s_extract (r := .str p2.1.1) rfl rfl) (p_ rfl (s_extract (r := .int .i64 p2.1.2) rfl rfl) (a_ (.str p2.1.1) rfl (a_ (.int .i64 p2.1.2) rfl (f_nil (f_seq ?_))))))))))))
    refine f_region (m_ (.ptr v4 v5) rfl (m_ (.str v1) rfl (o_bind fun p3 hp3 => p_ rfl (s_callF rfl ok49 (sim49 happ hp3)) (m_ (.tup [.str p3.1.1, .int .i64 p3.1.2]) rfl (p_ rfl (s_extract (r := .str p3.1.1) rfl rfl) (p_ rfl (s_extract (r := .int .i64 p3.1.2) rfl rfl) (a_ (.str p3.1.1) rfl (a_ (.int .i64 p3.1.2) rfl (n_ (m_ (.str p2.1.1) rfl (m_ (.str p3.1.1) rfl (p_ rfl (s_eqStr rfl rfl) ?_))))))))))))
    refine m_ (.bool (strEq p2.1.1 p3.1.1)) rfl ?_
    refine o_if (fun h4 => ?_) (fun h4 => ?_)
    · refine o_know 120 rfl (bool_T h4) (m_ (.int .i64 p2.1.2) rfl (m_ (.int .i64 p3.1.2) rfl (p_ rfl (s_eql rfl rfl) (p_ rfl (s_pickT (v := .bool (decide (p2.1.2 = p3.1.2))) rfl rfl) (m_ (.bool (decide (p2.1.2 = p3.1.2))) rfl ?_)))))
      refine o_if (fun h5 => ?_) (fun h5 => ?_)
      · refine o_know 125 rfl (dec_true h5) (m_ (.ptr v2 v3) rfl (m_ (.ptr v4 v5) rfl (o_bind fun p6 hp6 => p_ rfl (s_callF rfl ok46 (sim46 happ hp6)) (p_ rfl (s_pickT (v := .bool p6.1) rfl rfl) (m_ (.bool p6.1) rfl ?_)))))
        refine o_if (fun h7 => ?_) (fun h7 => ?_)
        · exact o_know 130 rfl (bool_T h7) (o_bind fun p8 hp8 => o_bind fun x9 hx9 => p_ rfl (s_callA happ rfl hp8) (o_know 131 rfl (asB_eq hx9) (p_ rfl (s_pickT (v := .bool x9) rfl rfl) (a_ (.bool x9) rfl (f_nil (f_ret (.tmp rfl (.nil)) rfl))))))
        · exact o_know 130 rfl (bool_F h7) (no_ rfl (p_ rfl (s_pickF (v := .bool false) rfl rfl) (a_ (.bool false) rfl (f_nil (f_ret (.tmp rfl (.nil)) rfl)))))
      · exact o_know 125 rfl (dec_false h5) (no_ rfl (no_ rfl (no_ rfl (p_ rfl (s_pickF (v := .bool false) rfl rfl) (m_ (.bool false) rfl (no_ rfl (p_ rfl (s_pickF (v := .bool false) rfl rfl) (a_ (.bool false) rfl (f_nil (f_ret (.tmp rfl (.nil)) rfl))))))))))
    · exact o_know 120 rfl (bool_F h4) (no_ rfl (no_ rfl (no_ rfl (p_ rfl (s_pickF (v := .bool false) rfl rfl) (m_ (.bool false) rfl (no_ rfl (no_ rfl (no_ rfl (p_ rfl (s_pickF (v := .bool false) rfl rfl) (m_ (.bool false) rfl (no_ rfl (p_ rfl (s_pickF (v := .bool false) rfl rfl) (a_ (.bool false) rfl (f_nil (f_ret (.tmp rfl (.nil)) rfl)))))))))))))))

theorem s9_l1 {app : App} (happ : AppSim prog app) : ∀ (k_ : Nat) (v1 : ByteArray) (v2 v3 v4 v5 : Nat) (v6 v7 : Int) (H : Hp), Fin prog f9 ret9 133 (todoAt (bodyOf f9) [1, 1, 1, 1, 0, 1, 0, 0] []) [(1, .str v1), (5, .ptr v2 v3), (6, .ptr v4 v5), (40, .int .i64 v6), (41, .int .i64 v7)] H (r9_l1 app k_ v1 v2 v3 v4 v5 v6 v7 H) := by
  intro k_
  induction k_ with
  | zero => intro _ _ _ _ _ _ _ _; exact f_none
  | succ k_ ih =>
    intro v1 v2 v3 v4 v5 v6 v7 H
    rw [r9_l1]
    refine q_ (p_ rfl (s_lss rfl rfl) (f_nil (f_seq ?_)))
    refine f_if (fun h1 => ?_) (fun h1 => ?_)
    · refine kT 42 h1 rfl (f_skip (f_seq (f_block (q_ (m_ (.int .i64 v7) rfl (a_ (.int .i64 v7) rfl (f_nil (f_seq (q_ (m_ (.ptr v2 v3) rfl (o_bind fun p2 hp2 => p_ rfl (s_callF rfl ok40 (sim40 happ hp2)) ?_)))))))))))
      refine m_ (.ptr v4 v5) rfl (o_bind fun p3 hp3 => p_ rfl (s_callF rfl ok50 (sim50 hp3)) (p_ rfl (s_neq rfl rfl) (f_nil ?_)))
      refine f_if (fun h4 => ?_) (fun h4 => ?_)
      · exact kT 48 h4 rfl (q_ (a_ (.bool false) rfl (f_nil (f_ret (.tmp rfl (.nil)) rfl))))
      · refine kF 48 h4 rfl (f_skip (q_ (m_ (.int .i64 v7) rfl (p_ rfl (s_rem rfl rfl (by decide)) (o_bind fun p5 hp5 => o_bind fun x6 hx6 => p_ rfl (s_callA happ rfl hp5) (o_know 51 rfl (asStr_eq hx6) (o_ck fun g7 => p_ rfl (s_addStr rfl rfl g7) (o_ck fun g8 => p_ rfl (s_addStr rfl rfl g8) (m_ (.int .i64 v7) rfl ?_)))))))))
        refine p_ rfl (s_quo rfl rfl (by decide)) (o_bind fun p9 hp9 => o_bind fun x10 hx10 => p_ rfl (s_callA happ rfl hp9) (o_know 56 rfl (asStr_eq hx10) (o_ck fun g11 => p_ rfl (s_addStr rfl rfl g11) (a_ (.str ((((ByteArray.mk #[111, 102, 102, 101, 114, 32]) ++ x6) ++ (ByteArray.mk #[32])) ++ x10)) rfl (n_ (m_ (.ptr v2 v3) rfl (m_ (.str ((((ByteArray.mk #[111, 102, 102, 101, 114, 32]) ++ x6) ++ (ByteArray.mk #[32])) ++ x10)) rfl (o_bind fun p12 hp12 => p_ rfl (s_callF rfl ok20 (sim20 happ hp12)) (m_ (.tup [.str p12.1.1, .int .i64 p12.1.2]) rfl ?_)))))))))
        refine p_ rfl (s_extract (r := .str p12.1.1) rfl rfl) (p_ rfl (s_extract (r := .int .i64 p12.1.2) rfl rfl) (a_ (.str p12.1.1) rfl (a_ (.int .i64 p12.1.2) rfl (n_ (m_ (.ptr v4 v5) rfl (m_ (.str ((((ByteArray.mk #[111, 102, 102, 101, 114, 32]) ++ x6) ++ (ByteArray.mk #[32])) ++ x10)) rfl (o_bind fun p13 hp13 => p_ rfl (s_callF rfl ok49 (sim49 happ hp13)) (m_ (.tup [.str p13.1.1, .int .i64 p13.1.2]) rfl (p_ rfl (s_extract (r := .str p13.1.1) rfl rfl) (p_ rfl (s_extract (r := .int .i64 p13.1.2) rfl rfl) (a_ (.str p13.1.1) rfl (a_ (.int .i64 p13.1.2) rfl ?_))))))))))))
        refine n_ (m_ (.str p12.1.1) rfl (m_ (.str p13.1.1) rfl (p_ rfl (s_neStr rfl rfl) (m_ (.bool (!(strEq p12.1.1 p13.1.1))) rfl ?_))))
        refine o_if (fun h14 => ?_) (fun h14 => ?_)
        · exact o_know 73 rfl (bool_notT h14) (m_ (.int .i64 p12.1.2) rfl (m_ (.int .i64 p13.1.2) rfl (p_ rfl (s_neq rfl rfl) (p_ rfl (s_pickF (v := .bool (decide (p12.1.2 ≠ p13.1.2))) rfl rfl) (f_nil (f_keep [1, 5, 6, 40, 41, 77] (s9_j2 happ _ ih v1 v2 v3 v4 v5 v6 v7 (decide (p12.1.2 ≠ p13.1.2)) p13.2)))))))
        · exact o_know 73 rfl (bool_notF h14) (no_ rfl (no_ rfl (no_ rfl (p_ rfl (s_pickT (v := .bool true) rfl rfl) (f_nil (f_keep [1, 5, 6, 40, 41, 77] (s9_j2 happ _ ih v1 v2 v3 v4 v5 v6 v7 true p13.2)))))))
    · refine kF 42 h1 rfl (f_exit rfl (q_ (m_ (.ptr v2 v3) rfl (o_bind fun p15 hp15 => p_ rfl (s_callF rfl ok35 (sim35 hp15)) (o_bind fun p16 hp16 => p_ rfl (s_callF rfl ok36 (sim36 happ hp16)) (m_ (.tup [p16.1.1, .int .i64 p16.1.2]) rfl (p_ rfl (s_extract (r := p16.1.1) rfl rfl) (p_ rfl (s_extract (r := .int .i64 p16.1.2) rfl rfl) (a_ p16.1.1 rfl (a_ (.int .i64 p16.1.2) rfl (f_nil ?_)))))))))))
      refine f_seq (q_ (m_ (.ptr v2 v3) rfl (m_ (.ptr v4 v5) rfl (o_bind fun p17 hp17 => p_ rfl (s_callF rfl ok46 (sim46 happ hp17)) (p_ rfl (s_not rfl) (m_ (.bool (!p17.1)) rfl ?_))))))
      refine o_if (fun h18 => ?_) (fun h18 => ?_)
      · refine o_know 89 rfl (bool_notT h18) (m_ (.int .i64 p16.1.2) rfl (p_ rfl (s_neq rfl rfl) (p_ rfl (s_pickF (v := .bool (decide (p16.1.2 ≠ 0))) rfl rfl) (m_ (.bool (decide (p16.1.2 ≠ 0))) rfl ?_))))
        refine o_if (fun h19 => ?_) (fun h19 => ?_)
        · exact o_know 93 rfl (dec_true h19) (no_ rfl (no_ rfl (p_ rfl (s_pickT (v := .bool true) rfl rfl) (m_ (.bool true) rfl (no_ rfl (no_ rfl (no_ rfl (no_ rfl (no_ rfl (no_ rfl (p_ rfl (s_pickT (v := .bool true) rfl rfl) (f_nil (f_keep [1, 5, 6, 104] (s9_j3 happ v1 v2 v3 v4 v5 true p17.2))))))))))))))
        · refine o_know 93 rfl (dec_false h19) (m_ p16.1.1 rfl (o_bind fun x20 hx20 => p_ rfl (s_eqVN underlying23 rfl rfl hx20) (p_ rfl (s_pickF (v := .bool (!x20)) rfl rfl) (m_ (.bool (!x20)) rfl ?_))))
          refine o_if (fun h21 => ?_) (fun h21 => ?_)
          · exact o_know 97 rfl (bool_notT h21) (m_ p16.1.1 rfl (o_bind fun x22 hx22 => o_know 98 rfl (asP_eq hx22) (o_bind fun p23 hp23 => p_ rfl (s_callF rfl ok35 (sim35 hp23)) (m_ (.ptr v4 v5) rfl (o_bind fun p24 hp24 => p_ rfl (s_callF rfl ok51 (sim51 hp24)) (o_bind fun p25 hp25 => p_ rfl (s_callF rfl ok39 (sim39 hp25)) (p_ rfl (s_not rfl) (p_ rfl (s_pickF (v := .bool (!p25.1)) rfl rfl) (f_nil (f_keep [1, 5, 6, 104] (s9_j3 happ v1 v2 v3 v4 v5 (!p25.1) p25.2)))))))))))
          · exact o_know 97 rfl (bool_notF h21) (no_ rfl (no_ rfl (no_ rfl (no_ rfl (no_ rfl (no_ rfl (p_ rfl (s_pickT (v := .bool true) rfl rfl) (f_nil (f_keep [1, 5, 6, 104] (s9_j3 happ v1 v2 v3 v4 v5 true p17.2))))))))))
      · refine o_know 89 rfl (bool_notF h18) (no_ rfl (no_ rfl (p_ rfl (s_pickT (v := .bool true) rfl rfl) (m_ (.bool true) rfl (no_ rfl (no_ rfl (p_ rfl (s_pickT (v := .bool true) rfl rfl) (m_ (.bool true) rfl (no_ rfl (no_ rfl (no_ rfl (no_ rfl (no_ rfl (no_ rfl (p_ rfl (s_pickT (v := .bool true) rfl rfl) ?_)))))))))))))))
        exact f_nil (f_keep [1, 5, 6, 104] (s9_j3 happ v1 v2 v3 v4 v5 true p17.2))

theorem s9_l0 {app : App} (happ : AppSim prog app) : ∀ (k_ : Nat) (v1 : Int) (v2 : ByteArray) (v3 v4 v5 v6 : Nat) (v7 : Sl) (v8 v9 : Int) (H : Hp), Fin prog f9 ret9 133 (todoAt (bodyOf f9) [1, 1, 0, 1, 0, 0] []) [(0, .int .i64 v1), (1, .str v2), (5, .ptr v3 v4), (6, .ptr v5 v6), (22, .sl v7), (23, .int .i64 v8), (24, .int .i64 v9)] H (r9_l0 app k_ v1 v2 v3 v4 v5 v6 v7 v8 v9 H) := by
  intro k_
  induction k_ with
  | zero => intro _ _ _ _ _ _ _ _ _ _; exact f_none
  | succ k_ ih =>
    intro v1 v2 v3 v4 v5 v6 v7 v8 v9 H
    rw [r9_l0]
    refine q_ (p_ rfl (s_lss rfl rfl) (f_nil (f_seq ?_)))
    refine f_if (fun h1 => ?_) (fun h1 => ?_)
    · refine kT 25 h1 rfl (f_skip (f_seq (f_block (q_ (o_ck fun g2 => p_ rfl (s_idx underlying22 ty9 rfl rfl g2) (o_bind fun x3 hx3 => p_ rfl (s_load underlying9 rfl rfl (ldStr_eq hx3)) (a_ (.str x3) rfl (n_ (m_ (.ptr v3 v4) rfl ?_)))))))))
      refine m_ (.str x3) rfl (o_bind fun p4 hp4 => p_ rfl (s_callF rfl ok20 (sim20 happ hp4)) (f_nil (f_region (m_ (.ptr v5 v6) rfl (m_ (.str x3) rfl (o_bind fun p5 hp5 => p_ rfl (s_callF rfl ok49 (sim49 happ hp5)) (f_nil (f_inBlock (f_region (p_ rfl (s_add rfl rfl) (m_ (.int .i64 (w64 (v9 + 1))) rfl (f_nil (f_inLoop ?_)))))))))))))
      exact f_keep [0, 1, 5, 6, 22, 23, 24] (ih v1 v2 v3 v4 v5 v6 v7 v8 (w64 (v9 + 1)) p5.2)
    · refine kF 25 h1 rfl (f_exit rfl (q_ (m_ (.int .i64 v1) rfl (p_ rfl (s_convInt underlying3 underlying46 rfl) (p_ rfl (s_rem rfl rfl (by decide)) (p_ rfl (s_convInt underlying46 underlying3 rfl) (p_ rfl (s_add rfl rfl) (a_ (.int .i64 (w64 (190 + (w64 (Int.tmod (IntKind.wrap .u64 (v1)) 15))))) rfl (f_nil (f_seq (q_ (m_ (.int .i64 (w64 (190 + (w64 (Int.tmod (IntKind.wrap .u64 (v1)) 15))))) rfl ?_))))))))))))
      exact m_ (.int .i64 0) rfl (f_nil (f_block (f_loop (f_keep [1, 5, 6, 40, 41] (s9_l1 happ FUEL v2 v3 v4 v5 v6 (w64 (190 + (w64 (Int.tmod (IntKind.wrap .u64 (v1)) 15)))) 0 H)))))

theorem sim9 {app : App} (happ : AppSim prog app) {a0 : Int} {a1 : ByteArray} {H : Hp} {p : Bool × Hp} (h : r9 app a0 a1 H = some p) : CallSim prog 9 [.int .i64 a0, .str a1] H (.bool p.1) p.2 := by
  refine callSim (fn := f9) (ret := ret9) func9 rfl Tryz.ntmps9 rfl ?_ h
  unfold r9
  refine q_ (a_ (.bool false) rfl (n_ (o_bind fun p1 hp1 => p_ rfl (s_callF rfl ok47 (sim47 hp1)) (o_bind fun p2 hp2 => p_ rfl (s_callF rfl ok48 (sim48 hp2)) (a_ (.ptr p1.1.1 p1.1.2) rfl (a_ (.ptr p2.1.1 p2.1.2) rfl (f_nil (f_seq (q_ ?_)))))))))
  exact p_ rfl (s_buildSlice (cs := [.str (ByteArray.mk #[108, 101, 97, 102, 32, 97, 32, 50, 48]), .str (ByteArray.mk #[108, 101, 97, 102, 32, 98, 32, 50, 48])]) underlying22 ty9 (by decide) (by decide) rfl (by decide) rfl) (p_ rfl (s_lenS rfl underlying22 rfl) (m_ (.int .i64 0) rfl (o_hp fun H3 hH3 => f_nil (f_block (f_loop (f_keep [0, 1, 5, 6, 22, 23, 24] (s9_l0 happ FUEL a0 a1 p1.1.1 p1.1.2 p2.1.1 p2.1.2 ⟨false, p2.2.n, 0, 2, 2, 0⟩ ((⟨false, p2.2.n, 0, 2, 2, 0⟩ : Sl).len : Int) 0 H3)))))))

/- 94 slices.Max[[]int,int] -/
theorem ok94 : FnOk prog 94 := ⟨⟨f94, func94, by kernel_rfl, rfl⟩⟩
theorem s94_l0 : ∀ (k_ : Nat) (v1 : Sl) (v2 v3 : Int) (H : Hp), Fin prog f94 ret94 25 (todoAt (bodyOf f94) [1, 1, 1, 0, 1, 0, 0] []) [(0, .sl v1), (3, .int .i64 v2), (4, .int .i64 v3)] H (r94_l0 k_ v1 v2 v3 H) := by
  intro k_
  induction k_ with
  | zero => intro _ _ _ _; exact f_none
  | succ k_ ih =>
    intro v1 v2 v3 H
    rw [r94_l0]
    refine f_seq (q_ (m_ (.int .i64 v3) rfl (m_ (.sl v1) rfl (p_ rfl (s_lenS rfl underlying25 rfl) (p_ rfl (s_lss rfl rfl) (f_nil ?_))))))
    refine f_if (fun h1 => ?_) (fun h1 => ?_)
    · refine kT 15 h1 rfl (f_skip (f_seq (f_block (f_region (m_ (.int .i64 v2) rfl (m_ (.sl v1) rfl (m_ (.int .i64 v3) rfl (o_ck fun g2 => p_ rfl (s_idx underlying25 ty3 rfl rfl g2) (o_bind fun x3 hx3 => p_ rfl (s_load underlying3 rfl rfl (ldI_eq hx3)) (p_ rfl (s_max2 rfl rfl) (a_ (.int .i64 (if v2 < x3 then x3 else v2)) rfl (f_nil ?_))))))))))))
      exact f_inBlock (f_region (m_ (.int .i64 v3) rfl (p_ rfl (s_add rfl rfl) (a_ (.int .i64 (w64 (v3 + 1))) rfl (f_nil (f_inLoop (f_keep [0, 3, 4] (ih v1 (if v2 < x3 then x3 else v2) (w64 (v3 + 1)) H))))))))
    · exact kF 15 h1 rfl (f_exit rfl (q_ (m_ (.int .i64 v2) rfl (a_ (.int .i64 v2) rfl (f_nil (f_ret (.tmp rfl (.nil)) rfl))))))

theorem sim94 {a0 : Sl} {H : Hp} {p : Int × Hp} (h : r94 a0 H = some p) : CallSim prog 94 [.sl a0] H (.int .i64 p.1) p.2 := by
  refine callSim (fn := f94) (ret := ret94) func94 rfl Tryz.ntmps94 rfl ?_ h
  unfold r94
  refine q_ (a_ (.int .i64 0) rfl (f_nil (f_seq (q_ (m_ (.sl a0) rfl (p_ rfl (s_lenS rfl underlying25 rfl) (p_ rfl (s_lss rfl rfl) (f_nil ?_))))))))
  refine f_if (fun h1 => ?_) (fun h1 => ?_)
  · exact kT 7 h1 rfl (f_region (o_none))
  · refine kF 7 h1 rfl (f_skip (q_ (m_ (.sl a0) rfl (o_ck fun g2 => p_ rfl (s_idx underlying25 ty3 rfl rfl g2) (o_bind fun x3 hx3 => p_ rfl (s_load underlying3 rfl rfl (ldI_eq hx3)) (a_ (.int .i64 x3) rfl (f_nil (f_seq (q_ (a_ (.int .i64 1) rfl ?_))))))))))
    exact f_nil (f_block (f_loop (f_keep [0, 3, 4] (s94_l0 FUEL a0 x3 1 H))))

/- 110 slices.Min[[]int,int] -/
theorem ok110 : FnOk prog 110 := ⟨⟨f110, func110, by kernel_rfl, rfl⟩⟩
theorem s110_l0 : ∀ (k_ : Nat) (v1 : Sl) (v2 v3 : Int) (H : Hp), Fin prog f110 ret110 25 (todoAt (bodyOf f110) [1, 1, 1, 0, 1, 0, 0] []) [(0, .sl v1), (3, .int .i64 v2), (4, .int .i64 v3)] H (r110_l0 k_ v1 v2 v3 H) := by
  intro k_
  induction k_ with
  | zero => intro _ _ _ _; exact f_none
  | succ k_ ih =>
    intro v1 v2 v3 H
    rw [r110_l0]
    refine f_seq (q_ (m_ (.int .i64 v3) rfl (m_ (.sl v1) rfl (p_ rfl (s_lenS rfl underlying25 rfl) (p_ rfl (s_lss rfl rfl) (f_nil ?_))))))
    refine f_if (fun h1 => ?_) (fun h1 => ?_)
    · refine kT 15 h1 rfl (f_skip (f_seq (f_block (f_region (m_ (.int .i64 v2) rfl (m_ (.sl v1) rfl (m_ (.int .i64 v3) rfl (o_ck fun g2 => p_ rfl (s_idx underlying25 ty3 rfl rfl g2) (o_bind fun x3 hx3 => p_ rfl (s_load underlying3 rfl rfl (ldI_eq hx3)) (p_ rfl (s_min2 rfl rfl) (a_ (.int .i64 (if x3 < v2 then x3 else v2)) rfl (f_nil ?_))))))))))))
      exact f_inBlock (f_region (m_ (.int .i64 v3) rfl (p_ rfl (s_add rfl rfl) (a_ (.int .i64 (w64 (v3 + 1))) rfl (f_nil (f_inLoop (f_keep [0, 3, 4] (ih v1 (if x3 < v2 then x3 else v2) (w64 (v3 + 1)) H))))))))
    · exact kF 15 h1 rfl (f_exit rfl (q_ (m_ (.int .i64 v2) rfl (a_ (.int .i64 v2) rfl (f_nil (f_ret (.tmp rfl (.nil)) rfl))))))

theorem sim110 {a0 : Sl} {H : Hp} {p : Int × Hp} (h : r110 a0 H = some p) : CallSim prog 110 [.sl a0] H (.int .i64 p.1) p.2 := by
  refine callSim (fn := f110) (ret := ret110) func110 rfl Tryz.ntmps110 rfl ?_ h
  unfold r110
  refine q_ (a_ (.int .i64 0) rfl (f_nil (f_seq (q_ (m_ (.sl a0) rfl (p_ rfl (s_lenS rfl underlying25 rfl) (p_ rfl (s_lss rfl rfl) (f_nil ?_))))))))
  refine f_if (fun h1 => ?_) (fun h1 => ?_)
  · exact kT 7 h1 rfl (f_region (o_none))
  · refine kF 7 h1 rfl (f_skip (q_ (m_ (.sl a0) rfl (o_ck fun g2 => p_ rfl (s_idx underlying25 ty3 rfl rfl g2) (o_bind fun x3 hx3 => p_ rfl (s_load underlying3 rfl rfl (ldI_eq hx3)) (a_ (.int .i64 x3) rfl (f_nil (f_seq (q_ (a_ (.int .i64 1) rfl ?_))))))))))
    exact f_nil (f_block (f_loop (f_keep [0, 3, 4] (s110_l0 FUEL a0 x3 1 H))))

/- 63 congou/shares.are -/
theorem ok63 : FnOk prog 63 := ⟨⟨f63, func63, by kernel_rfl, rfl⟩⟩
theorem s63_j1 (kt0 : Sl → Sl → Int → Int → Hp → Option (Bool × Hp)) (hkt0 : ∀ (v1 v2 : Sl) (v3 v4 : Int) (H : Hp), Fin prog f63 ret63 39 (todoAt (bodyOf f63) [1, 0, 1, 0, 0] []) [(0, .sl v1), (5, .sl v2), (6, .int .i64 v3), (7, .int .i64 v4)] H (kt0 v1 v2 v3 v4 H)) (v1 v2 : Sl) (v3 v4 : Int) (v5 : Bool) (H : Hp) : Fin prog f63 ret63 39 (todoAt (bodyOf f63) [1, 0, 1, 0, 0, 1, 1, 0, 0, 1, 1] []) [(0, .sl v1), (5, .sl v2), (6, .int .i64 v3), (7, .int .i64 v4), (37, .bool v5)] H (r63_j1 kt0 v1 v2 v3 v4 v5 H) := by
  unfold r63_j1
  refine f_if (fun h1 => ?_) (fun h1 => ?_)
  · exact bT 37 h1 rfl (q_ (a_ (.bool false) rfl (f_nil (f_ret (.tmp rfl (.nil)) rfl))))
  · exact bF 37 h1 rfl (f_skip (f_inBlock (f_region (p_ rfl (s_add rfl rfl) (m_ (.int .i64 (w64 (v4 + 1))) rfl (f_nil (f_inLoop (f_keep [0, 5, 6, 7] (hkt0 v1 v2 v3 (w64 (v4 + 1)) H)))))))))

theorem s63_l0 : ∀ (k_ : Nat) (v1 v2 : Sl) (v3 v4 : Int) (H : Hp), Fin prog f63 ret63 39 (todoAt (bodyOf f63) [1, 0, 1, 0, 0] []) [(0, .sl v1), (5, .sl v2), (6, .int .i64 v3), (7, .int .i64 v4)] H (r63_l0 k_ v1 v2 v3 v4 H) := by
  intro k_
  induction k_ with
  | zero => intro _ _ _ _ _; exact f_none
  | succ k_ ih =>
    intro v1 v2 v3 v4 H
    rw [r63_l0]
    refine q_ (p_ rfl (s_lss rfl rfl) (f_nil (f_seq ?_)))
    refine f_if (fun h1 => ?_) (fun h1 => ?_)
    · refine kT 8 h1 rfl (f_skip (f_seq (f_block (q_ (o_ck fun g2 => p_ rfl (s_idx underlying31 ty25 rfl rfl g2) (o_bind fun x3 hx3 => p_ rfl (s_load underlying25 rfl rfl (ldSl_eq hx3)) (a_ (.sl x3) rfl (n_ (m_ (.sl x3) rfl ?_)))))))))
      refine p_ rfl (s_lenS rfl underlying25 rfl) (p_ rfl (s_lss rfl rfl) (m_ (.bool (decide ((x3.len : Int) < 1))) rfl ?_))
      refine o_if (fun h4 => ?_) (fun h4 => ?_)
      · refine o_know 14 rfl (dec_true h4) (no_ rfl (no_ rfl (no_ rfl (p_ rfl (s_pickT (v := .bool true) rfl rfl) (m_ (.bool true) rfl (no_ rfl (no_ rfl (no_ rfl (no_ rfl (no_ rfl (no_ rfl (no_ rfl (p_ rfl (s_pickT (v := .bool true) rfl rfl) (m_ (.bool true) rfl (no_ rfl ?_)))))))))))))))
        exact no_ rfl (no_ rfl (p_ rfl (s_pickT (v := .bool true) rfl rfl) (m_ (.bool true) rfl (no_ rfl (no_ rfl (no_ rfl (p_ rfl (s_pickT (v := .bool true) rfl rfl) (f_nil (f_keep [0, 5, 6, 7, 37] (s63_j1 _ ih v1 v2 v3 v4 true H))))))))))
      · refine o_know 14 rfl (dec_false h4) (m_ (.sl x3) rfl (p_ rfl (s_lenS rfl underlying25 rfl) (p_ rfl (s_gtr rfl rfl) (p_ rfl (s_pickF (v := .bool (decide (6 < (x3.len : Int)))) rfl rfl) (m_ (.bool (decide (6 < (x3.len : Int)))) rfl ?_)))))
        refine o_if (fun h5 => ?_) (fun h5 => ?_)
        · refine o_know 19 rfl (dec_true h5) (no_ rfl (no_ rfl (no_ rfl (no_ rfl (no_ rfl (no_ rfl (no_ rfl (p_ rfl (s_pickT (v := .bool true) rfl rfl) (m_ (.bool true) rfl (no_ rfl (no_ rfl (no_ rfl (p_ rfl (s_pickT (v := .bool true) rfl rfl) (m_ (.bool true) rfl (no_ rfl ?_)))))))))))))))
          exact no_ rfl (no_ rfl (p_ rfl (s_pickT (v := .bool true) rfl rfl) (f_nil (f_keep [0, 5, 6, 7, 37] (s63_j1 _ ih v1 v2 v3 v4 true H)))))
        · refine o_know 19 rfl (dec_false h5) (m_ (.sl x3) rfl (p_ rfl (s_lenS rfl underlying25 rfl) (m_ (.sl v1) rfl (o_ck fun g6 => p_ rfl (s_idx underlying31 ty25 rfl rfl g6) (o_bind fun x7 hx7 => p_ rfl (s_load underlying25 rfl rfl (ldSl_eq hx7)) (p_ rfl (s_lenS rfl underlying25 rfl) (p_ rfl (s_neq rfl rfl) (p_ rfl (s_pickF (v := .bool (decide ((x3.len : Int) ≠ (x7.len : Int)))) rfl rfl) (m_ (.bool (decide ((x3.len : Int) ≠ (x7.len : Int)))) rfl ?_)))))))))
          refine o_if (fun h8 => ?_) (fun h8 => ?_)
          · exact o_know 28 rfl (dec_true h8) (no_ rfl (no_ rfl (no_ rfl (p_ rfl (s_pickT (v := .bool true) rfl rfl) (m_ (.bool true) rfl (no_ rfl (no_ rfl (no_ rfl (p_ rfl (s_pickT (v := .bool true) rfl rfl) (f_nil (f_keep [0, 5, 6, 7, 37] (s63_j1 _ ih v1 v2 v3 v4 true H))))))))))))
          · refine o_know 28 rfl (dec_false h8) (m_ (.sl x3) rfl (o_bind fun p9 hp9 => p_ rfl (s_callF rfl ok110 (sim110 hp9)) (p_ rfl (s_lss rfl rfl) (p_ rfl (s_pickF (v := .bool (decide (p9.1 < 0))) rfl rfl) (m_ (.bool (decide (p9.1 < 0))) rfl ?_)))))
            refine o_if (fun h10 => ?_) (fun h10 => ?_)
            · exact o_know 33 rfl (dec_true h10) (no_ rfl (no_ rfl (no_ rfl (p_ rfl (s_pickT (v := .bool true) rfl rfl) (f_nil (f_keep [0, 5, 6, 7, 37] (s63_j1 _ ih v1 v2 v3 v4 true p9.2)))))))
            · exact o_know 33 rfl (dec_false h10) (m_ (.sl x3) rfl (o_bind fun p11 hp11 => p_ rfl (s_callF rfl ok94 (sim94 hp11)) (p_ rfl (s_gtr rfl rfl) (p_ rfl (s_pickF (v := .bool (decide (20 < p11.1))) rfl rfl) (f_nil (f_keep [0, 5, 6, 7, 37] (s63_j1 _ ih v1 v2 v3 v4 (decide (20 < p11.1)) p11.2)))))))
    · exact kF 8 h1 rfl (f_exit rfl (q_ (a_ (.bool true) rfl (f_nil (f_ret (.tmp rfl (.nil)) rfl)))))

theorem sim63 {a0 : Sl} {H : Hp} {p : Bool × Hp} (h : r63 a0 H = some p) : CallSim prog 63 [.sl a0] H (.bool p.1) p.2 := by
  refine callSim (fn := f63) (ret := ret63) func63 rfl Tryz.ntmps63 rfl ?_ h
  unfold r63
  exact q_ (a_ (.bool false) rfl (f_nil (f_seq (q_ (m_ (.sl a0) rfl (p_ rfl (s_lenS rfl underlying31 rfl) (m_ (.int .i64 0) rfl (f_nil (f_block (f_loop (f_keep [0, 5, 6, 7] (s63_l0 FUEL a0 a0 (a0.len : Int) 0 H))))))))))))

/- 17 congou/shares.Gap -/
theorem ok17 : FnOk prog 17 := ⟨⟨f17, func17, by kernel_rfl, rfl⟩⟩
theorem s17_l1 (kt0 : Sl → Int → Sl → Int → Int → Hp → Option ((Int × Int) × Hp)) (hkt0 : ∀ (v1 : Sl) (v2 : Int) (v3 : Sl) (v4 v5 : Int) (H : Hp), Fin prog f17 ret17 40 (todoAt (bodyOf f17) [1, 1, 1, 0, 1, 0, 0] []) [(0, .sl v1), (4, .int .i64 v2), (13, .sl v3), (14, .int .i64 v4), (15, .int .i64 v5)] H (kt0 v1 v2 v3 v4 v5 H)) : ∀ (k_ : Nat) (v1 : Sl) (v2 v3 : Int) (v4 : Sl) (v5 v6 : Int) (v7 : Sl) (v8 v9 : Int) (H : Hp), Fin prog f17 ret17 40 (todoAt (bodyOf f17) [1, 1, 1, 0, 1, 0, 0, 1, 1, 0, 0, 1, 1, 0, 0] []) [(0, .sl v1), (4, .int .i64 v2), (6, .int .i64 v3), (13, .sl v4), (14, .int .i64 v5), (15, .int .i64 v6), (22, .sl v7), (23, .int .i64 v8), (24, .int .i64 v9)] H (r17_l1 kt0 k_ v1 v2 v3 v4 v5 v6 v7 v8 v9 H) := by
  intro k_
  induction k_ with
  | zero => intro _ _ _ _ _ _ _ _ _ _; exact f_none
  | succ k_ ih =>
    intro v1 v2 v3 v4 v5 v6 v7 v8 v9 H
    rw [r17_l1]
    refine q_ (p_ rfl (s_lss rfl rfl) (f_nil (f_seq ?_)))
    refine f_if (fun h1 => ?_) (fun h1 => ?_)
    · refine kT 25 h1 rfl (f_skip (f_seq (f_block (q_ (o_ck fun g2 => p_ rfl (s_idx underlying25 ty3 rfl rfl g2) (o_bind fun x3 hx3 => p_ rfl (s_load underlying3 rfl rfl (ldI_eq hx3)) (a_ (.int .i64 x3) rfl (f_nil (f_region (m_ (.int .i64 v2) rfl (m_ (.int .i64 v3) rfl ?_)))))))))))
      refine m_ (.int .i64 x3) rfl (p_ rfl (s_sub rfl rfl) (m_ (.int .i64 x3) rfl (m_ (.int .i64 v3) rfl (p_ rfl (s_sub rfl rfl) (p_ rfl (s_max2 rfl rfl) (p_ rfl (s_add rfl rfl) (a_ (.int .i64 (w64 (v2 + (if (w64 (v3 - x3)) < (w64 (x3 - v3)) then (w64 (x3 - v3)) else (w64 (v3 - x3)))))) rfl (f_nil (f_inBlock (f_region (p_ rfl (s_add rfl rfl) (m_ (.int .i64 (w64 (v9 + 1))) rfl (f_nil (f_inLoop (f_keep [0, 4, 6, 13, 14, 15, 22, 23, 24] ?_)))))))))))))))
      exact ih v1 (w64 (v2 + (if (w64 (v3 - x3)) < (w64 (x3 - v3)) then (w64 (x3 - v3)) else (w64 (v3 - x3))))) v3 v4 v5 v6 v7 v8 (w64 (v9 + 1)) H
    · exact kF 25 h1 rfl (f_exit rfl (f_inBlock (f_region (p_ rfl (s_add rfl rfl) (m_ (.int .i64 (w64 (v6 + 1))) rfl (f_nil (f_inLoop (f_keep [0, 4, 13, 14, 15] (hkt0 v1 v2 v4 v5 (w64 (v6 + 1)) H)))))))))

theorem s17_l0 : ∀ (k_ : Nat) (v1 : Sl) (v2 : Int) (v3 : Sl) (v4 v5 : Int) (H : Hp), Fin prog f17 ret17 40 (todoAt (bodyOf f17) [1, 1, 1, 0, 1, 0, 0] []) [(0, .sl v1), (4, .int .i64 v2), (13, .sl v3), (14, .int .i64 v4), (15, .int .i64 v5)] H (r17_l0 k_ v1 v2 v3 v4 v5 H) := by
  intro k_
  induction k_ with
  | zero => intro _ _ _ _ _ _; exact f_none
  | succ k_ ih =>
    intro v1 v2 v3 v4 v5 H
    rw [r17_l0]
    refine q_ (p_ rfl (s_lss rfl rfl) (f_nil (f_seq ?_)))
    refine f_if (fun h1 => ?_) (fun h1 => ?_)
    · refine kT 16 h1 rfl (f_skip (f_seq (f_block (q_ (m_ (.int .i64 v5) rfl (o_ck fun g2 => p_ rfl (s_idx underlying25 ty3 rfl rfl g2) (o_bind fun x3 hx3 => p_ rfl (s_load underlying3 rfl rfl (ldI_eq hx3)) (a_ (.int .i64 v5) rfl (a_ (.int .i64 x3) rfl (f_nil (f_seq ?_)))))))))))
      exact f_region (m_ (.sl v1) rfl (m_ (.int .i64 v5) rfl (o_ck fun g4 => p_ rfl (s_slice underlying25 ty3 rfl rfl rfl g4.1 g4.2) (p_ rfl (s_lenS rfl underlying25 rfl) (m_ (.int .i64 0) rfl (f_nil (f_block (f_loop (f_keep [0, 4, 6, 13, 14, 15, 22, 23, 24] (s17_l1 _ ih FUEL v1 v2 x3 v3 v4 v5 (v1.cut 1 (0 : Int).toNat (v5 : Int).toNat) ((v1.cut 1 (0 : Int).toNat (v5 : Int).toNat).len : Int) 0 H))))))))))
    · exact kF 16 h1 rfl (f_exit rfl (q_ (m_ (.int .i64 v2) rfl (a_ (.int .i64 v2) rfl (a_ (.int .i64 0) rfl (f_nil (f_ret (.tmp rfl (.tmp rfl (.nil))) rfl)))))))

theorem sim17 {a0 : Sl} {H : Hp} {p : (Int × Int) × Hp} (h : r17 a0 H = some p) : CallSim prog 17 [.sl a0] H (.tup [.int .i64 p.1.1, .int .i64 p.1.2]) p.2 := by
  refine callSim (fn := f17) (ret := ret17) func17 rfl Tryz.ntmps17 rfl ?_ h
  unfold r17
  refine q_ (a_ (.int .i64 0) rfl (a_ (.int .i64 0) rfl (f_nil (f_seq (q_ (m_ (.sl a0) rfl (p_ rfl (s_buildSlice (cs := [.sl a0]) underlying31 ty25 (by decide) (by decide) rfl (by decide) rfl) (o_bind fun p1 hp1 => p_ rfl (s_callF rfl ok63 (sim63 hp1)) (p_ rfl (s_not rfl) (f_nil ?_))))))))))
  refine f_if (fun h2 => ?_) (fun h2 => ?_)
  · refine f_know 12 rfl (bool_notT h2) (f_condF rfl (f_skip (q_ (a_ (.int .i64 0) rfl (f_nil (f_seq (q_ (m_ (.sl a0) rfl (p_ rfl (s_lenS rfl underlying25 rfl) (m_ (.int .i64 0) rfl (f_nil (f_block (f_loop ?_)))))))))))))
    exact f_keep [0, 4, 13, 14, 15] (s17_l0 FUEL a0 0 a0 (a0.len : Int) 0 p1.2)
  · exact f_know 12 rfl (bool_notF h2) (f_condT rfl (q_ (a_ (.int .i64 0) rfl (a_ (.int .i64 2) rfl (f_nil (f_ret (.tmp rfl (.tmp rfl (.nil))) rfl))))))

end Go.Lt.P10
