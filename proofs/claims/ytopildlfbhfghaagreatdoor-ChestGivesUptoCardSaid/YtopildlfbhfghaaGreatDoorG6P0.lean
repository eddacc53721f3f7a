/- PRINTED BY A PROGRAM OF OURS: what each function that 'ChestGives' reaches computes on the abstract heap, and that the translated code does just that. Nothing is asked of the input. -/
import Derived.Test.YtopildlfbhfghaaGreatDoorG6R1
set_option linter.unusedVariables false
set_option linter.unusedSimpArgs false
set_option maxRecDepth 100000
set_option maxHeartbeats 4000000
namespace Go.Lt.P10
open Go Go.Lt Go.Proofs Go.Proofs.Tryz
/- 60 (*congou/chest.Chest).none -/
theorem ok60 : FnOk prog 60 := ⟨⟨f60, func60, by kernel_rfl, rfl⟩⟩
theorem sim60 {a0b : Nat} {a0o : Nat} {H : Hp} {p : Bool × Hp} (h : r60 a0b a0o H = some p) : CallSim prog 60 [.ptr a0b a0o] H (.bool p.1) p.2 := by
 refine callSim (fn := f60) (ret := ret60) func60 rfl Tryz.ntmps60 rfl ?_ h
 unfold r60
 refine q_ (a_ (.bool false) rfl (n_ (m_ (.ptr a0b a0o) rfl (p_ rfl (s_eqPN underlying23 rfl rfl) (m_ (.bool false) rfl (m_ (.ptr a0b a0o) rfl (p_ rfl (s_nilCheck rfl) (p_ rfl (s_fieldAddr underlying118 rfl ty116 rfl) (o_bind fun x1 hx1 => p_ rfl (s_load underlying116 rfl rfl (ldSl_eq hx1)) (p_ rfl (s_lenS rfl underlying116 rfl) (p_ rfl (s_eql rfl rfl) ?_)))))))))))
 exact p_ rfl (s_pickF (v := .bool (decide ((x1.len : Int) = 0))) rfl rfl) (a_ (.bool (decide ((x1.len : Int) = 0))) rfl (f_nil (f_ret (.tmp rfl (.nil)) rfl)))

/- 61 (*congou/chest.Chest).now -/
theorem ok61 : FnOk prog 61 := ⟨⟨f61, func61, by kernel_rfl, rfl⟩⟩
theorem sim61 {a0b : Nat} {a0o : Nat} {H : Hp} {p : (Nat × Nat) × Hp} (h : r61 a0b a0o H = some p) : CallSim prog 61 [.ptr a0b a0o] H (.ptr p.1.1 p.1.2) p.2 := by
 refine callSim (fn := f61) (ret := ret61) func61 rfl Tryz.ntmps61 rfl ?_ h
 unfold r61
 exact q_ (a_ (.nilptr) rfl (f_nil (f_seq (f_bind fun x1 hx1 => f_bind fun x2 hx2 => f_ck fun g3 => f_bind fun x4 hx4 => f_draw (Φ := fun _ => True) (lim := 1000000) [0, 0, 0, 1, 0, 0, 0, 1, 0, 0, 1, 0] (tm (.ptr a0b a0o) rfl (t_ rfl (fun _ => s_nilCheck rfl) (t_ rfl (fun _ => s_fieldAddr underlying118 rfl ty116 rfl) (tr rfl (s_load underlying116 rfl rfl (ldSl_eq hx1)) (tm (.ptr a0b a0o) rfl (t_ rfl (fun _ => s_nilCheck rfl) (t_ rfl (fun _ => s_fieldAddr underlying118 rfl ty3 rfl) (tr rfl (s_load underlying3 rfl rfl (ldI_eq hx2)) (t_ rfl (fun _ => s_idx underlying116 ty120 rfl rfl g3) (t_ rfl (fun _ => s_fieldAddr underlying120 rfl ty109 rfl) (tr rfl (s_load underlying109 rfl rfl (ldP_eq hx4)) (t_ rfl (fun _ => s_as (v := .ptr x4.1 x4.2) rfl) (Trc.nil (fun _ => trivial)))))))))))))) rfl (by decide +kernel) mixed (f_ret (.tmp rfl (.nil)) rfl)))))

/- 246 internal/stringslite.IndexByte -/
theorem ok246 : FnOk prog 246 := ⟨⟨f246, func246, by kernel_rfl, rfl⟩⟩
theorem sim246 {a0 : ByteArray} {a1 : Int} {H : Hp} {p : Int × Hp} (h : r246 a0 a1 H = some p) : CallSim prog 246 [.str a0, .int .u8 a1] H (.int .i64 p.1) p.2 := by
 refine callSim (fn := f246) (ret := ret246) func246 rfl Tryz.ntmps246 rfl ?_ h
 unfold r246
 exact q_ (a_ (.int .i64 0) rfl (n_ (m_ (.str a0) rfl (m_ (.int .u8 a1) rfl (p_ rfl (s_idxByte rfl ext308) (a_ (.int .i64 (strIdx a0 a1)) rfl (f_nil (f_ret (.tmp rfl (.nil)) rfl))))))))

/- 248 internal/bytealg.Cutover -/
theorem ok248 : FnOk prog 248 := ⟨⟨f248, func248, by kernel_rfl, rfl⟩⟩
theorem sim248 {a0 : Int} {H : Hp} {p : Int × Hp} (h : r248 a0 H = some p) : CallSim prog 248 [.int .i64 a0] H (.int .i64 p.1) p.2 := by
 refine callSim (fn := f248) (ret := ret248) func248 rfl Tryz.ntmps248 rfl ?_ h
 unfold r248
 exact q_ (a_ (.int .i64 0) rfl (n_ (m_ (.int .i64 a0) rfl (p_ rfl (s_add rfl rfl) (p_ rfl (s_quo rfl rfl (by decide)) (a_ (.int .i64 (w64 (Int.tdiv (w64 (a0 + 16)) 8))) rfl (f_nil (f_ret (.tmp rfl (.nil)) rfl))))))))

/- 193 internal/stringslite.Index -/
theorem ok193 : FnOk prog 193 := ⟨⟨f193, func193, by kernel_rfl, rfl⟩⟩
theorem s193_j0 (v1 v2 : ByteArray) (v3 : Int) (v4 : Bool) (H : Hp) : Fin prog f193 ret193 143 (todoAt (bodyOf f193) [1, 1, 0, 0, 1] []) [(0, .str v1), (1, .str v2), (5, .int .i64 v3), (16, .bool v4)] H (r193_j0 v1 v2 v3 v4 H) := by
 unfold r193_j0
 refine f_if (fun h1 => ?_) (fun h1 => ?_)
 ·exact bT 16 h1 rfl (q_ (a_ (.int .i64 0) rfl (f_nil (f_ret (.tmp rfl (.nil)) rfl))))
 ·refine bF 16 h1 rfl (q_ (m_ (.int .i64 v3) rfl (p_ rfl (s_eql rfl rfl) (a_ (.bool (decide (v3 = 1))) rfl (f_nil ?_)))))
  refine f_if (fun h2 => ?_) (fun h2 => ?_)
  ·exact kT 24 h2 rfl (q_ (m_ (.str v1) rfl (m_ (.str v2) rfl (o_ck fun g3 => p_ rfl (s_indexStr underlying9 rfl rfl g3) (o_bind fun p4 hp4 => p_ rfl (s_callF rfl ok246 (sim246 hp4)) (a_ (.int .i64 p4.1) rfl (f_nil (f_ret (.tmp rfl (.nil)) rfl))))))))
  ·refine kF 24 h2 rfl (q_ (m_ (.int .i64 v3) rfl (m_ (.str v1) rfl (p_ rfl (s_lenStr rfl underlying9 rfl) (p_ rfl (s_geq rfl rfl) (a_ (.bool (decide ((v1.size : Int) ≤ v3))) rfl (f_nil ?_)))))))
   refine f_if (fun h5 => ?_) (fun h5 => ?_)
   ·exact kT 31 h5 rfl (q_ (a_ (.int .i64 (-1)) rfl (f_nil (f_ret (.tmp rfl (.nil)) rfl))))
   ·exact kF 31 h5 rfl (q_ (m_ (.int .i64 v3) rfl (o_none)))

theorem sim193 {a0 : ByteArray} {a1 : ByteArray} {H : Hp} {p : Int × Hp} (h : r193 a0 a1 H = some p) : CallSim prog 193 [.str a0, .str a1] H (.int .i64 p.1) p.2 := by
 refine callSim (fn := f193) (ret := ret193) func193 rfl Tryz.ntmps193 rfl ?_ h
 unfold r193
 refine q_ (a_ (.int .i64 0) rfl (n_ (m_ (.str a1) rfl (p_ rfl (s_lenStr rfl underlying9 rfl) (a_ (.int .i64 (a1.size : Int)) rfl (f_nil (f_seq (f_block (q_ (m_ (.int .i64 (a1.size : Int)) rfl (p_ rfl (s_eql rfl rfl) ?_)))))))))))
 refine m_ (.bool (decide ((a1.size : Int) = 0))) rfl ?_
 refine o_if (fun h1 => ?_) (fun h1 => ?_)
 ·exact o_know 19 rfl (dec_true h1) (no_ rfl (no_ rfl (no_ rfl (p_ rfl (s_pickT (v := .bool true) rfl rfl) (a_ (.bool true) rfl (f_nil (f_keep [0, 1, 5, 16] (s193_j0 a0 a1 (a1.size : Int) true H))))))))
 ·exact o_know 19 rfl (dec_false h1) (m_ (.str a1) rfl (m_ (.str a0) rfl (p_ rfl (s_eqStr rfl rfl) (p_ rfl (s_pickF (v := .bool (strEq a1 a0)) rfl rfl) (a_ (.bool (strEq a1 a0)) rfl (f_nil (f_keep [0, 1, 5, 16] (s193_j0 a0 a1 (a1.size : Int) (strEq a1 a0) H))))))))

/- 152 internal/stringslite.Cut -/
theorem ok152 : FnOk prog 152 := ⟨⟨f152, func152, by kernel_rfl, rfl⟩⟩
theorem sim152 {a0 : ByteArray} {a1 : ByteArray} {H : Hp} {p : (ByteArray × ByteArray × Bool) × Hp} (h : r152 a0 a1 H = some p) : CallSim prog 152 [.str a0, .str a1] H (.tup [.str p.1.1, .str p.1.2.1, .bool p.1.2.2]) p.2 := by
 refine callSim (fn := f152) (ret := ret152) func152 rfl Tryz.ntmps152 rfl ?_ h
 unfold r152
 refine q_ (a_ (.str (ByteArray.mk #[])) rfl (a_ (.str (ByteArray.mk #[])) rfl (a_ (.bool false) rfl (f_nil (f_seq (q_ (m_ (.str a0) rfl (m_ (.str a1) rfl (o_bind fun p1 hp1 => p_ rfl (s_callF rfl ok193 (sim193 hp1)) (a_ (.int .i64 p1.1) rfl (f_nil (f_seq ?_))))))))))))
 refine f_region (m_ (.int .i64 p1.1) rfl (p_ rfl (s_geq rfl rfl) (f_nil ?_)))
 refine f_if (fun h2 => ?_) (fun h2 => ?_)
 ·exact kT 12 h2 rfl (f_seq (f_ck fun g3 => f_ck fun g4 => f_draw (Φ := fun _ => True) (lim := 1000000) [0, 0, 0, 0, 0, 0, 0, 0, 0, 0, 0, 0] (tm (.str a0) rfl (tm (.int .i64 p1.1) rfl (t_ rfl (fun _ => s_sliceStr underlying9 rfl rfl rfl g3) (tm (.str a0) rfl (tm (.int .i64 p1.1) rfl (tm (.str a1) rfl (t_ rfl (fun _ => s_lenStr rfl underlying9 rfl) (t_ rfl (fun _ => s_add rfl rfl) (t_ rfl (fun _ => s_sliceStr underlying9 rfl rfl rfl g4) (t_ rfl (fun _ => s_as (v := .str (a0.extract (0 : Int).toNat (p1.1 : Int).toNat)) rfl) (t_ rfl (fun _ => s_as (v := .str (a0.extract (w64 (p1.1 + (a1.size : Int)) : Int).toNat ((a0.size : Int) : Int).toNat)) rfl) (t_ rfl (fun _ => s_as (v := .bool true) rfl) (Trc.nil (fun _ => trivial)))))))))))))) rfl (by decide +kernel) mixed (f_ret (.tmp rfl (.tmp rfl (.tmp rfl (.nil)))) rfl)))
 ·exact kF 12 h2 rfl (f_skip (q_ (m_ (.str a0) rfl (a_ (.str a0) rfl (a_ (.str (ByteArray.mk #[])) rfl (a_ (.bool false) rfl (f_nil (f_ret (.tmp rfl (.tmp rfl (.tmp rfl (.nil)))) rfl))))))))

/- 97 strings.Cut -/
theorem ok97 : FnOk prog 97 := ⟨⟨f97, func97, by kernel_rfl, rfl⟩⟩
theorem sim97 {a0 : ByteArray} {a1 : ByteArray} {H : Hp} {p : (ByteArray × ByteArray × Bool) × Hp} (h : r97 a0 a1 H = some p) : CallSim prog 97 [.str a0, .str a1] H (.tup [.str p.1.1, .str p.1.2.1, .bool p.1.2.2]) p.2 := by
 refine callSim (fn := f97) (ret := ret97) func97 rfl Tryz.ntmps97 rfl ?_ h
 unfold r97
 refine q_ (a_ (.str (ByteArray.mk #[])) rfl (a_ (.str (ByteArray.mk #[])) rfl (a_ (.bool false) rfl (n_ (m_ (.str a0) rfl (m_ (.str a1) rfl (o_bind fun p1 hp1 => p_ rfl (s_callF rfl ok152 (sim152 hp1)) (p_ rfl (s_extract (r := .str p1.1.1) rfl rfl) (p_ rfl (s_extract (r := .str p1.1.2.1) rfl rfl) (p_ rfl (s_extract (r := .bool p1.1.2.2) rfl rfl) (a_ (.str p1.1.1) rfl ?_)))))))))))
 exact a_ (.str p1.1.2.1) rfl (a_ (.bool p1.1.2.2) rfl (f_nil (f_ret (.tmp rfl (.tmp rfl (.tmp rfl (.nil)))) rfl)))

/- 146 strings.Index -/
theorem ok146 : FnOk prog 146 := ⟨⟨f146, func146, by kernel_rfl, rfl⟩⟩
theorem sim146 {a0 : ByteArray} {a1 : ByteArray} {H : Hp} {p : Int × Hp} (h : r146 a0 a1 H = some p) : CallSim prog 146 [.str a0, .str a1] H (.int .i64 p.1) p.2 := by
 refine callSim (fn := f146) (ret := ret146) func146 rfl Tryz.ntmps146 rfl ?_ h
 unfold r146
 exact q_ (a_ (.int .i64 0) rfl (n_ (m_ (.str a0) rfl (m_ (.str a1) rfl (o_bind fun p1 hp1 => p_ rfl (s_callF rfl ok193 (sim193 hp1)) (a_ (.int .i64 p1.1) rfl (f_nil (f_ret (.tmp rfl (.nil)) rfl))))))))

/- 145 strings.Count -/
theorem ok145 : FnOk prog 145 := ⟨⟨f145, func145, by kernel_rfl, rfl⟩⟩
theorem s145_l0 : ∀ (k_ : Nat) (v1 v2 : ByteArray) (v3 : Int) (H : Hp), Fin prog f145 ret145 34 (todoAt (bodyOf f145) [1, 1, 1, 1, 0, 0] []) [(0, .str v1), (1, .str v2), (5, .int .i64 v3)] H (r145_l0 k_ v1 v2 v3 H) := by
 intro k_
 induction k_ with
 | zero => intro _ _ _ _; exact f_none
 | succ k_ ih =>
  intro v1 v2 v3 H
  rw [r145_l0]
  refine f_block (q_ (m_ (.str v1) rfl (m_ (.str v2) rfl (o_bind fun p1 hp1 => p_ rfl (s_callF rfl ok146 (sim146 hp1)) (a_ (.int .i64 p1.1) rfl (f_nil (f_seq (q_ (m_ (.int .i64 p1.1) rfl (p_ rfl (s_eql rfl rfl) (f_nil ?_)))))))))))
  refine f_if (fun h2 => ?_) (fun h2 => ?_)
  ·exact kT 24 h2 rfl (q_ (m_ (.int .i64 v3) rfl (a_ (.int .i64 v3) rfl (f_nil (f_ret (.tmp rfl (.nil)) rfl)))))
  ·refine kF 24 h2 rfl (f_skip (q_ (m_ (.int .i64 v3) rfl (p_ rfl (s_add rfl rfl) (a_ (.int .i64 (w64 (v3 + 1))) rfl (f_nil (f_region (m_ (.str v1) rfl (m_ (.int .i64 p1.1) rfl (m_ (.str v2) rfl (p_ rfl (s_lenStr rfl underlying9 rfl) (p_ rfl (s_add rfl rfl) (o_ck fun g3 => ?_)))))))))))))
   exact p_ rfl (s_sliceStr underlying9 rfl rfl rfl g3) (a_ (.str (v1.extract (w64 (p1.1 + (v2.size : Int)) : Int).toNat ((v1.size : Int) : Int).toNat)) rfl (f_nil (f_inBlock (f_inLoop (f_keep [0, 1, 5] (ih (v1.extract (w64 (p1.1 + (v2.size : Int)) : Int).toNat ((v1.size : Int) : Int).toNat) v2 (w64 (v3 + 1)) p1.2))))))

theorem sim145 {a0 : ByteArray} {a1 : ByteArray} {H : Hp} {p : Int × Hp} (h : r145 a0 a1 H = some p) : CallSim prog 145 [.str a0, .str a1] H (.int .i64 p.1) p.2 := by
 refine callSim (fn := f145) (ret := ret145) func145 rfl Tryz.ntmps145 rfl ?_ h
 unfold r145
 refine q_ (a_ (.int .i64 0) rfl (f_nil (f_seq (q_ (m_ (.str a1) rfl (p_ rfl (s_lenStr rfl underlying9 rfl) (p_ rfl (s_eql rfl rfl) (f_nil ?_))))))))
 refine f_if (fun h1 => ?_) (fun h1 => ?_)
 ·exact kT 9 h1 rfl (q_ (m_ (.str a0) rfl (o_none)))
 ·refine kF 9 h1 rfl (f_skip (f_seq (q_ (m_ (.str a1) rfl (p_ rfl (s_lenStr rfl underlying9 rfl) (p_ rfl (s_eql rfl rfl) (f_nil ?_)))))))
  refine f_if (fun h2 => ?_) (fun h2 => ?_)
  ·exact kT 15 h2 rfl (q_ (m_ (.str a0) rfl (m_ (.str a1) rfl (o_ck fun g3 => p_ rfl (s_indexStr underlying9 rfl rfl g3) (p_ rfl (s_cntByte rfl ext192) (a_ (.int .i64 (strCnt a0 (bt a1 0))) rfl (f_nil (f_ret (.tmp rfl (.nil)) rfl))))))))
  ·exact kF 15 h2 rfl (f_skip (q_ (a_ (.int .i64 0) rfl (f_nil (f_block (f_loop (f_keep [0, 1, 5] (s145_l0 FUEL a0 a1 0 H))))))))

/- 88 strings.genSplit -/
theorem ok88 : FnOk prog 88 := ⟨⟨f88, func88, by kernel_rfl, rfl⟩⟩
theorem s88_j2 (v1 : ByteArray) (v2 : Sl) (v3 : Int) (H : Hp) : Fin prog f88 ret88 66 (todoAt (bodyOf f88) [1, 1, 1, 1, 1, 1, 1, 1, 1] []) [(0, .str v1), (9, .sl v2), (10, .int .i64 v3)] H (r88_j2 v1 v2 v3 H) := by
 unfold r88_j2
 refine q_ (m_ (.sl v2) rfl (m_ (.int .i64 v3) rfl (m_ (.str v1) rfl (o_ck fun g1 => p_ rfl (s_idx underlying22 ty9 rfl rfl g1) (o_bind fun H2 hH2 => p_ rfl (s_store (s := 1) ty9 rfl rfl rfl hH2) (n_ (m_ (.sl v2) rfl (m_ (.int .i64 v3) rfl (p_ rfl (s_add rfl rfl) (o_ck fun g3 => ?_))))))))))
 exact p_ rfl (s_slice underlying22 ty9 rfl rfl rfl g3.1 g3.2) (a_ (.sl (v2.cut 1 (0 : Int).toNat (w64 (v3 + 1) : Int).toNat)) rfl (f_nil (f_ret (.tmp rfl (.nil)) rfl)))

theorem s88_l0 : ∀ (k_ : Nat) (v1 v2 : ByteArray) (v3 v4 : Int) (v5 : Sl) (v6 : Int) (H : Hp), Fin prog f88 ret88 66 (todoAt (bodyOf f88) [1, 1, 1, 1, 1, 1, 1, 1, 0, 0, 0] []) [(0, .str v1), (1, .str v2), (2, .int .i64 v3), (3, .int .i64 v4), (9, .sl v5), (10, .int .i64 v6)] H (r88_l0 k_ v1 v2 v3 v4 v5 v6 H) := by
 intro k_
 induction k_ with
 | zero => intro _ _ _ _ _ _ _; exact f_none
 | succ k_ ih =>
  intro v1 v2 v3 v4 v5 v6 H
  rw [r88_l0]
  refine f_seq (q_ (m_ (.int .i64 v6) rfl (m_ (.int .i64 v4) rfl (p_ rfl (s_lss rfl rfl) (f_nil ?_)))))
  refine f_if (fun h1 => ?_) (fun h1 => ?_)
  ·refine kT 36 h1 rfl (f_skip (f_block (q_ (m_ (.str v1) rfl (m_ (.str v2) rfl (o_bind fun p2 hp2 => p_ rfl (s_callF rfl ok146 (sim146 hp2)) (a_ (.int .i64 p2.1) rfl (f_nil (f_seq (q_ (m_ (.int .i64 p2.1) rfl ?_)))))))))))
   refine p_ rfl (s_lss rfl rfl) (f_nil ?_)
   refine f_if (fun h3 => ?_) (fun h3 => ?_)
   ·exact kT 41 h3 rfl (f_exit rfl (f_keep [0, 9, 10] (s88_j2 v1 v5 v6 p2.2)))
   ·refine kF 41 h3 rfl (f_skip (q_ (m_ (.sl v5) rfl (m_ (.int .i64 v6) rfl (m_ (.str v1) rfl (m_ (.int .i64 p2.1) rfl (m_ (.int .i64 v3) rfl (p_ rfl (s_add rfl rfl) (o_ck fun g4 => p_ rfl (s_sliceStr underlying9 rfl rfl rfl g4) (o_ck fun g5 => p_ rfl (s_idx underlying22 ty9 rfl rfl g5) (o_bind fun H6 hH6 => ?_)))))))))))
    refine p_ rfl (s_store (s := 1) ty9 rfl rfl rfl hH6) (n_ (m_ (.str v1) rfl (m_ (.int .i64 p2.1) rfl (m_ (.str v2) rfl (p_ rfl (s_lenStr rfl underlying9 rfl) (p_ rfl (s_add rfl rfl) (o_ck fun g7 => p_ rfl (s_sliceStr underlying9 rfl rfl rfl g7) (a_ (.str (v1.extract (w64 (p2.1 + (v2.size : Int)) : Int).toNat ((v1.size : Int) : Int).toNat)) rfl (f_nil (f_region (m_ (.int .i64 v6) rfl (p_ rfl (s_add rfl rfl) ?_))))))))))))
    exact a_ (.int .i64 (w64 (v6 + 1))) rfl (f_nil (f_inBlock (f_inLoop (f_keep [0, 1, 2, 3, 9, 10] (ih (v1.extract (w64 (p2.1 + (v2.size : Int)) : Int).toNat ((v1.size : Int) : Int).toNat) v2 v3 v4 v5 (w64 (v6 + 1)) H6)))))
  ·exact kF 36 h1 rfl (f_exit rfl (f_keep [0, 9, 10] (s88_j2 v1 v5 v6 H)))

theorem s88_j1 (v1 v2 : ByteArray) (v3 v4 : Int) (H : Hp) : Fin prog f88 ret88 66 (todoAt (bodyOf f88) [1, 1, 1, 1] []) [(0, .str v1), (1, .str v2), (2, .int .i64 v3), (3, .int .i64 v4)] H (r88_j1 v1 v2 v3 v4 H) := by
 unfold r88_j1
 refine q_ (m_ (.int .i64 v4) rfl (m_ (.str v1) rfl (p_ rfl (s_lenStr rfl underlying9 rfl) (p_ rfl (s_add rfl rfl) (p_ rfl (s_min2 rfl rfl) (a_ (.int .i64 (if (w64 ((v1.size : Int) + 1)) < v4 then (w64 ((v1.size : Int) + 1)) else v4)) rfl (n_ (m_ (.int .i64 (if (w64 ((v1.size : Int) + 1)) < v4 then (w64 ((v1.size : Int) + 1)) else v4)) rfl (o_ck fun g1 => p_ rfl (s_makeSlice underlying22 ty9 rfl rfl (by decide) (by decide) rfl rfl g1) (a_ (.sl ⟨false, H.n, 0, ((if (w64 ((v1.size : Int) + 1)) < v4 then (w64 ((v1.size : Int) + 1)) else v4) : Int).toNat, ((if (w64 ((v1.size : Int) + 1)) < v4 then (w64 ((v1.size : Int) + 1)) else v4) : Int).toNat, 0⟩) rfl (o_hp fun H2 hH2 => ?_)))))))))))
 exact n_ (m_ (.int .i64 (if (w64 ((v1.size : Int) + 1)) < v4 then (w64 ((v1.size : Int) + 1)) else v4)) rfl (p_ rfl (s_sub rfl rfl) (a_ (.int .i64 (w64 ((if (w64 ((v1.size : Int) + 1)) < v4 then (w64 ((v1.size : Int) + 1)) else v4) - 1))) rfl (n_ (a_ (.int .i64 0) rfl (f_nil (f_seq (f_block (f_loop (f_keep [0, 1, 2, 3, 9, 10] (s88_l0 FUEL v1 v2 v3 (w64 ((if (w64 ((v1.size : Int) + 1)) < v4 then (w64 ((v1.size : Int) + 1)) else v4) - 1)) ⟨false, H.n, 0, ((if (w64 ((v1.size : Int) + 1)) < v4 then (w64 ((v1.size : Int) + 1)) else v4) : Int).toNat, ((if (w64 ((v1.size : Int) + 1)) < v4 then (w64 ((v1.size : Int) + 1)) else v4) : Int).toNat, 0⟩ 0 H2)))))))))))

theorem sim88 {a0 : ByteArray} {a1 : ByteArray} {a2 : Int} {a3 : Int} {H : Hp} {p : Sl × Hp} (h : r88 a0 a1 a2 a3 H = some p) : CallSim prog 88 [.str a0, .str a1, .int .i64 a2, .int .i64 a3] H (.sl p.1) p.2 := by
 refine callSim (fn := f88) (ret := ret88) func88 rfl Tryz.ntmps88 rfl ?_ h
 unfold r88
 refine q_ (a_ (.sl ⟨true, 0, 0, 0, 0, 0⟩) rfl (f_nil (f_seq (q_ (m_ (.int .i64 a3) rfl (p_ rfl (s_eql rfl rfl) (f_nil ?_)))))))
 refine f_if (fun h1 => ?_) (fun h1 => ?_)
 ·exact kT 13 h1 rfl (q_ (a_ (.sl ⟨true, 0, 0, 0, 0, 0⟩) rfl (f_nil (f_ret (.tmp rfl (.nil)) rfl))))
 ·refine kF 13 h1 rfl (f_skip (f_seq (q_ (m_ (.str a1) rfl (p_ rfl (s_eqStr rfl rfl) (f_nil ?_))))))
  refine f_if (fun h2 => ?_) (fun h2 => ?_)
  ·exact bT 15 h2 rfl (q_ (m_ (.str a0) rfl (m_ (.int .i64 a3) rfl (o_none))))
  ·refine bF 15 h2 rfl (f_skip (f_seq (q_ (m_ (.int .i64 a3) rfl (p_ rfl (s_lss rfl rfl) (f_nil ?_))))))
   refine f_if (fun h3 => ?_) (fun h3 => ?_)
   ·exact kT 20 h3 rfl (f_region (m_ (.str a0) rfl (m_ (.str a1) rfl (o_bind fun p4 hp4 => p_ rfl (s_callF rfl ok145 (sim145 hp4)) (p_ rfl (s_add rfl rfl) (a_ (.int .i64 (w64 (p4.1 + 1))) rfl (f_nil (f_keep [0, 1, 2, 3] (s88_j1 a0 a1 a2 (w64 (p4.1 + 1)) p4.2)))))))))
   ·exact kF 20 h3 rfl (f_skip (f_keep [0, 1, 2, 3] (s88_j1 a0 a1 a2 a3 H)))

/- 52 strings.Split -/
theorem ok52 : FnOk prog 52 := ⟨⟨f52, func52, by kernel_rfl, rfl⟩⟩
theorem sim52 {a0 : ByteArray} {a1 : ByteArray} {H : Hp} {p : Sl × Hp} (h : r52 a0 a1 H = some p) : CallSim prog 52 [.str a0, .str a1] H (.sl p.1) p.2 := by
 refine callSim (fn := f52) (ret := ret52) func52 rfl Tryz.ntmps52 rfl ?_ h
 unfold r52
 exact q_ (a_ (.sl ⟨true, 0, 0, 0, 0, 0⟩) rfl (n_ (m_ (.str a0) rfl (m_ (.str a1) rfl (o_bind fun p1 hp1 => p_ rfl (s_callF rfl ok88 (sim88 hp1)) (a_ (.sl p1.1) rfl (f_nil (f_ret (.tmp rfl (.nil)) rfl))))))))

/- 23 slices.Index[[]string,string] -/
theorem ok23 : FnOk prog 23 := ⟨⟨f23, func23, by kernel_rfl, rfl⟩⟩
theorem s23_l0 : ∀ (k_ : Nat) (v1 : Sl) (v2 : ByteArray) (v3 v4 : Int) (H : Hp), Fin prog f23 ret23 19 (todoAt (bodyOf f23) [1, 0, 1, 0, 0] []) [(0, .sl v1), (1, .str v2), (7, .int .i64 v3), (8, .int .i64 v4)] H (r23_l0 k_ v1 v2 v3 v4 H) := by
 intro k_
 induction k_ with
 | zero => intro _ _ _ _ _; exact f_none
 | succ k_ ih =>
  intro v1 v2 v3 v4 H
  rw [r23_l0]
  refine q_ (p_ rfl (s_lss rfl rfl) (f_nil (f_seq ?_)))
  refine f_if (fun h1 => ?_) (fun h1 => ?_)
  ·refine kT 9 h1 rfl (f_skip (f_seq (f_block (q_ (m_ (.int .i64 v4) rfl (a_ (.int .i64 v4) rfl (n_ (m_ (.str v2) rfl (m_ (.sl v1) rfl (m_ (.int .i64 v4) rfl (o_ck fun g2 => ?_)))))))))))
   refine p_ rfl (s_idx underlying22 ty9 rfl rfl g2) (o_bind fun x3 hx3 => p_ rfl (s_load underlying9 rfl rfl (ldStr_eq hx3)) (p_ rfl (s_eqStr rfl rfl) (f_nil ?_)))
   refine f_if (fun h4 => ?_) (fun h4 => ?_)
   ·exact bT 16 h4 rfl (q_ (m_ (.int .i64 v4) rfl (a_ (.int .i64 v4) rfl (f_nil (f_ret (.tmp rfl (.nil)) rfl)))))
   ·exact bF 16 h4 rfl (f_skip (f_inBlock (f_region (p_ rfl (s_add rfl rfl) (m_ (.int .i64 (w64 (v4 + 1))) rfl (f_nil (f_inLoop (f_keep [0, 1, 7, 8] (ih v1 v2 v3 (w64 (v4 + 1)) H)))))))))
  ·exact kF 9 h1 rfl (f_exit rfl (q_ (a_ (.int .i64 (-1)) rfl (f_nil (f_ret (.tmp rfl (.nil)) rfl)))))

theorem sim23 {a0 : Sl} {a1 : ByteArray} {H : Hp} {p : Int × Hp} (h : r23 a0 a1 H = some p) : CallSim prog 23 [.sl a0, .str a1] H (.int .i64 p.1) p.2 := by
 refine callSim (fn := f23) (ret := ret23) func23 rfl Tryz.ntmps23 rfl ?_ h
 unfold r23
 exact q_ (a_ (.int .i64 0) rfl (f_nil (f_seq (q_ (m_ (.sl a0) rfl (p_ rfl (s_lenS rfl underlying22 rfl) (m_ (.int .i64 0) rfl (f_nil (f_block (f_loop (f_keep [0, 1, 7, 8] (s23_l0 FUEL a0 a1 (a0.len : Int) 0 H))))))))))))

/- 226 slices.Contains[[]string,string] -/
theorem ok226 : FnOk prog 226 := ⟨⟨f226, func226, by kernel_rfl, rfl⟩⟩
theorem sim226 {a0 : Sl} {a1 : ByteArray} {H : Hp} {p : Bool × Hp} (h : r226 a0 a1 H = some p) : CallSim prog 226 [.sl a0, .str a1] H (.bool p.1) p.2 := by
 refine callSim (fn := f226) (ret := ret226) func226 rfl Tryz.ntmps226 rfl ?_ h
 unfold r226
 exact q_ (a_ (.bool false) rfl (n_ (m_ (.sl a0) rfl (m_ (.str a1) rfl (o_bind fun p1 hp1 => p_ rfl (s_callF rfl ok23 (sim23 hp1)) (p_ rfl (s_geq rfl rfl) (a_ (.bool (decide (0 ≤ p1.1))) rfl (f_nil (f_ret (.tmp rfl (.nil)) rfl)))))))))

/- 292 slices.IndexFunc[[]byte,byte] -/
theorem ok292 : FnOk prog 292 := ⟨⟨f292, func292, by kernel_rfl, rfl⟩⟩
theorem s292_l0 {app : App} (happ : AppSim prog app) : ∀ (k_ : Nat) (v1 : Sl) (v2 : AV) (v3 v4 : Int) (H : Hp), Fin prog f292 ret292 19 (todoAt (bodyOf f292) [1, 0, 1, 0, 0] []) [(0, .sl v1), (1, v2), (7, .int .i64 v3), (8, .int .i64 v4)] H (r292_l0 app k_ v1 v2 v3 v4 H) := by
 intro k_
 induction k_ with
 | zero => intro _ _ _ _ _; exact f_none
 | succ k_ ih =>
  intro v1 v2 v3 v4 H
  rw [r292_l0]
  refine q_ (p_ rfl (s_lss rfl rfl) (f_nil (f_seq ?_)))
  refine f_if (fun h1 => ?_) (fun h1 => ?_)
  ·refine kT 9 h1 rfl (f_skip (f_seq (f_block (q_ (m_ (.int .i64 v4) rfl (a_ (.int .i64 v4) rfl (n_ (m_ v2 rfl (m_ (.sl v1) rfl (m_ (.int .i64 v4) rfl (o_ck fun g2 => ?_)))))))))))
   refine p_ rfl (s_idx underlying75 ty5 rfl rfl g2) (o_bind fun x3 hx3 => p_ rfl (s_load underlying5 rfl rfl (ldI_eq hx3)) (o_bind fun p4 hp4 => o_bind fun x5 hx5 => p_ rfl (s_callv happ rfl rfl hp4) (o_know 16 rfl (asB_eq hx5) (f_nil ?_))))
   refine f_if (fun h6 => ?_) (fun h6 => ?_)
   ·exact bT 16 h6 rfl (q_ (m_ (.int .i64 v4) rfl (a_ (.int .i64 v4) rfl (f_nil (f_ret (.tmp rfl (.nil)) rfl)))))
   ·exact bF 16 h6 rfl (f_skip (f_inBlock (f_region (p_ rfl (s_add rfl rfl) (m_ (.int .i64 (w64 (v4 + 1))) rfl (f_nil (f_inLoop (f_keep [0, 1, 7, 8] (ih v1 v2 v3 (w64 (v4 + 1)) p4.2)))))))))
  ·exact kF 9 h1 rfl (f_exit rfl (q_ (a_ (.int .i64 (-1)) rfl (f_nil (f_ret (.tmp rfl (.nil)) rfl)))))

theorem sim292 {app : App} (happ : AppSim prog app) {a0 : Sl} {a1 : AV} {H : Hp} {p : Int × Hp} (h : r292 app a0 a1 H = some p) : CallSim prog 292 [.sl a0, a1] H (.int .i64 p.1) p.2 := by
 refine callSim (fn := f292) (ret := ret292) func292 rfl Tryz.ntmps292 rfl ?_ h
 unfold r292
 exact q_ (a_ (.int .i64 0) rfl (f_nil (f_seq (q_ (m_ (.sl a0) rfl (p_ rfl (s_lenS rfl underlying75 rfl) (m_ (.int .i64 0) rfl (f_nil (f_block (f_loop (f_keep [0, 1, 7, 8] (s292_l0 happ FUEL a0 a1 (a0.len : Int) 0 H))))))))))))

/- 227 slices.ContainsFunc[[]byte,byte] -/
theorem ok227 : FnOk prog 227 := ⟨⟨f227, func227, by kernel_rfl, rfl⟩⟩
theorem sim227 {app : App} (happ : AppSim prog app) {a0 : Sl} {a1 : AV} {H : Hp} {p : Bool × Hp} (h : r227 app a0 a1 H = some p) : CallSim prog 227 [.sl a0, a1] H (.bool p.1) p.2 := by
 refine callSim (fn := f227) (ret := ret227) func227 rfl Tryz.ntmps227 rfl ?_ h
 unfold r227
 exact q_ (a_ (.bool false) rfl (n_ (m_ (.sl a0) rfl (m_ a1 rfl (o_bind fun p1 hp1 => p_ rfl (s_callF rfl ok292 (sim292 happ hp1)) (p_ rfl (s_geq rfl rfl) (a_ (.bool (decide (0 ≤ p1.1))) rfl (f_nil (f_ret (.tmp rfl (.nil)) rfl)))))))))

/- 228 congou/chest.isLine$1 -/
theorem ok228 : FnOk prog 228 := ⟨⟨f228, func228, by kernel_rfl, rfl⟩⟩
theorem sim228 {a0 : Int} {H : Hp} {p : Bool × Hp} (h : r228 a0 H = some p) : CallSim prog 228 [.int .u8 a0] H (.bool p.1) p.2 := by
 refine callSim (fn := f228) (ret := ret228) func228 rfl Tryz.ntmps228 rfl ?_ h
 unfold r228
 refine q_ (a_ (.bool false) rfl (n_ (m_ (.int .u8 a0) rfl (p_ rfl (s_lss rfl rfl) (m_ (.bool (decide (a0 < 32))) rfl ?_)))))
 refine o_if (fun h1 => ?_) (fun h1 => ?_)
 ·exact o_know 5 rfl (dec_true h1) (no_ rfl (no_ rfl (p_ rfl (s_pickT (v := .bool true) rfl rfl) (a_ (.bool true) rfl (f_nil (f_ret (.tmp rfl (.nil)) rfl))))))
 ·exact o_know 5 rfl (dec_false h1) (m_ (.int .u8 a0) rfl (p_ rfl (s_gtr rfl rfl) (p_ rfl (s_pickF (v := .bool (decide (126 < a0))) rfl rfl) (a_ (.bool (decide (126 < a0))) rfl (f_nil (f_ret (.tmp rfl (.nil)) rfl))))))

/- 164 congou/chest.isLine -/
theorem ok164 : FnOk prog 164 := ⟨⟨f164, func164, by kernel_rfl, rfl⟩⟩
theorem sim164 {app : App} (happ : AppSim prog app) {a0 : ByteArray} {H : Hp} {p : Bool × Hp} (h : r164 app a0 H = some p) : CallSim prog 164 [.str a0] H (.bool p.1) p.2 := by
 refine callSim (fn := f164) (ret := ret164) func164 rfl Tryz.ntmps164 rfl ?_ h
 unfold r164
 refine q_ (a_ (.bool false) rfl (n_ (m_ (.str a0) rfl (p_ rfl (s_lenStr rfl underlying9 rfl) (p_ rfl (s_leq rfl rfl) (m_ (.bool (decide ((a0.size : Int) ≤ 60))) rfl ?_))))))
 refine o_if (fun h1 => ?_) (fun h1 => ?_)
 ·refine o_know 6 rfl (dec_true h1) (m_ (.str a0) rfl (o_bind fun p2 hp2 => p_ rfl (s_callF rfl ok52 (sim52 hp2)) (o_bind fun p3 hp3 => p_ rfl (s_callF rfl ok226 (sim226 hp3)) (p_ rfl (s_not rfl) (p_ rfl (s_pickT (v := .bool (!p3.1)) rfl rfl) (m_ (.bool (!p3.1)) rfl ?_))))))
  refine o_if (fun h4 => ?_) (fun h4 => ?_)
  ·exact o_know 12 rfl (bool_notT h4) (no_ rfl (no_ rfl (no_ rfl (no_ rfl (p_ rfl (s_pickF (v := .bool false) rfl rfl) (a_ (.bool false) rfl (f_nil (f_ret (.tmp rfl (.nil)) rfl))))))))
  ·exact o_know 12 rfl (bool_notF h4) (m_ (.str a0) rfl (p_ rfl (s_strBytes underlying9 underlying75 underlying5 rfl) (o_bind fun p5 hp5 => p_ rfl (s_callF rfl ok227 (sim227 happ hp5)) (p_ rfl (s_not rfl) (p_ rfl (s_pickT (v := .bool (!p5.1)) rfl rfl) (a_ (.bool (!p5.1)) rfl (f_nil (f_ret (.tmp rfl (.nil)) rfl))))))))
 ·exact o_know 6 rfl (dec_false h1) (no_ rfl (no_ rfl (no_ rfl (no_ rfl (p_ rfl (s_pickF (v := .bool false) rfl rfl) (m_ (.bool false) rfl (no_ rfl (no_ rfl (no_ rfl (no_ rfl (p_ rfl (s_pickF (v := .bool false) rfl rfl) (a_ (.bool false) rfl (f_nil (f_ret (.tmp rfl (.nil)) rfl))))))))))))))

/- 165 congou/chest.isName -/
theorem ok165 : FnOk prog 165 := ⟨⟨f165, func165, by kernel_rfl, rfl⟩⟩
theorem s165_j1 (kt0 : ByteArray → Nat → Hp → Option (Bool × Hp)) (hkt0 : ∀ (v1 : ByteArray) (v2 : Nat) (H : Hp), Fin prog f165 ret165 23 (todoAt (bodyOf f165) [1, 0, 1, 0, 0] []) [(0, .str v1), (6, .ptr v2 0)] H (kt0 v1 v2 H)) (v1 : ByteArray) (v2 : Nat) (v3 : Bool) (H : Hp) : Fin prog f165 ret165 23 (todoAt (bodyOf f165) [1, 0, 1, 0, 0, 1, 1, 0, 1, 1] []) [(0, .str v1), (6, .ptr v2 0), (15, .bool v3)] H (r165_j1 kt0 v1 v2 v3 H) := by
 unfold r165_j1
 refine f_if (fun h1 => ?_) (fun h1 => ?_)
 ·exact bT 15 h1 rfl (q_ (a_ (.bool false) rfl (f_nil (f_ret (.tmp rfl (.nil)) rfl))))
 ·exact bF 15 h1 rfl (f_skip (f_inBlock (f_inLoop (f_keep [0, 6] (hkt0 v1 v2 H)))))

theorem s165_l0 : ∀ (k_ : Nat) (v1 : ByteArray) (v2 : Nat) (H : Hp), Fin prog f165 ret165 23 (todoAt (bodyOf f165) [1, 0, 1, 0, 0] []) [(0, .str v1), (6, .ptr v2 0)] H (r165_l0 k_ v1 v2 H) := by
 intro k_
 induction k_ with
 | zero => intro _ _ _; exact f_none
 | succ k_ ih =>
  intro v1 v2 H
  rw [r165_l0]
  refine q_ (o_bind fun x1 hx1 => p_ rfl (s_nextStr rfl rfl hx1) (p_ rfl (s_next0 rfl) (f_nil (f_seq ?_))))
  refine f_if (fun h2 => ?_) (fun h2 => ?_)
  ·refine bT 8 h2 rfl (f_skip (f_block (q_ (o_bind fun x3 hx3 => p_ rfl (s_next2 rfl hx3) (a_ (.int .i32 x3.2) rfl (n_ (m_ (.int .i32 x3.2) rfl (p_ rfl (s_lss rfl rfl) (m_ (.bool (decide (x3.2 < 97))) rfl ?_)))))))))
   refine o_if (fun h4 => ?_) (fun h4 => ?_)
   ·exact o_know 12 rfl (dec_true h4) (no_ rfl (no_ rfl (p_ rfl (s_pickT (v := .bool true) rfl rfl) (f_nil (f_keep [0, 6, 15] (s165_j1 _ ih v1 v2 true x1.2))))))
   ·exact o_know 12 rfl (dec_false h4) (m_ (.int .i32 x3.2) rfl (p_ rfl (s_gtr rfl rfl) (p_ rfl (s_pickF (v := .bool (decide (122 < x3.2))) rfl rfl) (f_nil (f_keep [0, 6, 15] (s165_j1 _ ih v1 v2 (decide (122 < x3.2)) x1.2))))))
  ·refine bF 8 h2 rfl (f_exit rfl (q_ (m_ (.str v1) rfl (p_ rfl (s_neStr rfl rfl) (m_ (.bool (!(strEq v1 (ByteArray.mk #[])))) rfl ?_)))))
   refine o_if (fun h5 => ?_) (fun h5 => ?_)
   ·exact o_know 18 rfl (bool_notT h5) (no_ rfl (no_ rfl (no_ rfl (p_ rfl (s_pickF (v := .bool false) rfl rfl) (a_ (.bool false) rfl (f_nil (f_ret (.tmp rfl (.nil)) rfl)))))))
   ·exact o_know 18 rfl (bool_notF h5) (m_ (.str v1) rfl (p_ rfl (s_lenStr rfl underlying9 rfl) (p_ rfl (s_leq rfl rfl) (p_ rfl (s_pickT (v := .bool (decide ((v1.size : Int) ≤ 8))) rfl rfl) (a_ (.bool (decide ((v1.size : Int) ≤ 8))) rfl (f_nil (f_ret (.tmp rfl (.nil)) rfl)))))))

theorem sim165 {a0 : ByteArray} {H : Hp} {p : Bool × Hp} (h : r165 a0 H = some p) : CallSim prog 165 [.str a0] H (.bool p.1) p.2 := by
 refine callSim (fn := f165) (ret := ret165) func165 rfl Tryz.ntmps165 rfl ?_ h
 unfold r165
 exact q_ (a_ (.bool false) rfl (f_nil (f_seq (q_ (m_ (.str a0) rfl (p_ rfl (s_rangeStr underlying9 rfl) (o_hp fun H1 hH1 => f_nil (f_block (f_loop (f_keep [0, 6] (s165_l0 FUEL a0 H.n H1)))))))))))

/- 166 congou/chest.number -/
theorem ok166 : FnOk prog 166 := ⟨⟨f166, func166, by kernel_rfl, rfl⟩⟩
theorem sim166 {app : App} (happ : AppSim prog app) {a0 : ByteArray} {H : Hp} {p : (Int × Bool) × Hp} (h : r166 app a0 H = some p) : CallSim prog 166 [.str a0] H (.tup [.int .i64 p.1.1, .bool p.1.2]) p.2 := by
 refine callSim (fn := f166) (ret := ret166) func166 rfl Tryz.ntmps166 rfl ?_ h
 unfold r166
 refine q_ (a_ (.int .i64 0) rfl (a_ (.bool false) rfl (n_ (m_ (.str a0) rfl (o_bind fun p1 hp1 => o_bind fun x2 hx2 => o_ck fun g3 => o_bind fun x4 hx4 => o_bind fun x5 hx5 => o_bind fun x6 hx6 => p_ rfl (s_callA happ rfl hp1) (o_know 8 rfl (tupOf2 hx2 g3 (gete hx4 (asI_eq hx5)) (gete hx6 (rfl))) ?_))))))
 refine m_ (.tup [.int .i64 x5, x6]) rfl (p_ rfl (s_extract (r := .int .i64 x5) rfl rfl) (p_ rfl (s_extract (r := x6) rfl rfl) (a_ (.int .i64 x5) rfl (a_ x6 rfl (n_ (m_ (.int .i64 x5) rfl (m_ x6 rfl (o_bind fun x7 hx7 => p_ rfl (s_eqIfN underlying98 rfl rfl trivial hx7) (m_ (.bool (!x7)) rfl ?_)))))))))
 refine o_if (fun h8 => ?_) (fun h8 => ?_)
 ·refine o_know 14 rfl (bool_notT h8) (no_ rfl (no_ rfl (p_ rfl (s_pickF (v := .bool false) rfl rfl) (m_ (.bool false) rfl (no_ rfl (no_ rfl (no_ rfl (p_ rfl (s_pickF (v := .bool false) rfl rfl) (m_ (.bool false) rfl (no_ rfl (no_ rfl (no_ rfl (no_ rfl (p_ rfl (s_pickF (v := .bool false) rfl rfl) (a_ (.int .i64 x5) rfl ?_)))))))))))))))
  exact a_ (.bool false) rfl (f_nil (f_ret (.tmp rfl (.tmp rfl (.nil))) rfl))
 ·refine o_know 14 rfl (bool_notF h8) (m_ (.int .i64 x5) rfl (p_ rfl (s_geq rfl rfl) (p_ rfl (s_pickT (v := .bool (decide (0 ≤ x5))) rfl rfl) (m_ (.bool (decide (0 ≤ x5))) rfl ?_))))
  refine o_if (fun h9 => ?_) (fun h9 => ?_)
  ·refine o_know 18 rfl (dec_true h9) (m_ (.str a0) rfl (p_ rfl (s_lenStr rfl underlying9 rfl) (p_ rfl (s_leq rfl rfl) (p_ rfl (s_pickT (v := .bool (decide ((a0.size : Int) ≤ 3))) rfl rfl) (m_ (.bool (decide ((a0.size : Int) ≤ 3))) rfl ?_)))))
   refine o_if (fun h10 => ?_) (fun h10 => ?_)
   ·exact o_know 23 rfl (dec_true h10) (m_ (.int .i64 x5) rfl (o_bind fun p11 hp11 => o_bind fun x12 hx12 => p_ rfl (s_callA happ rfl hp11) (o_know 25 rfl (asStr_eq hx12) (m_ (.str a0) rfl (p_ rfl (s_eqStr rfl rfl) (p_ rfl (s_pickT (v := .bool (strEq x12 a0)) rfl rfl) (a_ (.int .i64 x5) rfl (a_ (.bool (strEq x12 a0)) rfl (f_nil (f_ret (.tmp rfl (.tmp rfl (.nil))) rfl))))))))))
   ·exact o_know 23 rfl (dec_false h10) (no_ rfl (no_ rfl (no_ rfl (no_ rfl (p_ rfl (s_pickF (v := .bool false) rfl rfl) (a_ (.int .i64 x5) rfl (a_ (.bool false) rfl (f_nil (f_ret (.tmp rfl (.tmp rfl (.nil))) rfl)))))))))
  ·exact o_know 18 rfl (dec_false h9) (no_ rfl (no_ rfl (no_ rfl (p_ rfl (s_pickF (v := .bool false) rfl rfl) (m_ (.bool false) rfl (no_ rfl (no_ rfl (no_ rfl (no_ rfl (p_ rfl (s_pickF (v := .bool false) rfl rfl) (a_ (.int .i64 x5) rfl (a_ (.bool false) rfl (f_nil (f_ret (.tmp rfl (.tmp rfl (.nil))) rfl))))))))))))))

end Go.Lt.P10
