/- PRINTED BY A PROGRAM OF OURS: what each function that 'ChestBack' reaches computes on the abstract heap, and that the translated code does just that. Nothing is asked of the input. -/
import Derived.Test.YtnigfapfghgmnaaGreatDoorG7P3
set_option linter.unusedVariables false
set_option linter.unusedSimpArgs false
set_option maxRecDepth 100000
set_option maxHeartbeats 4000000
namespace Go.Lt.P10
open Go Go.Lt Go.Proofs
/- 7 congou/congoulaw10.ChestBack -/
theorem ok7 : FnOk Tryz.prog 7 := ⟨⟨Tryz.f7, Tryz.func7, by kernel_rfl, rfl⟩⟩
theorem s7_j0 {app : App} (happ : AppSim Tryz.prog app) (v1 : ByteArray) (v2 : Nat) (v3 : Nat) (v4 : ByteArray) (v5 : Int) (v6 : ByteArray) (v7 : Bool) (H : Hp) : Fin Tryz.prog Tryz.f7 ret7 112 (todoAt (bodyOf Tryz.f7) [1, 1, 1, 1, 1, 1, 0, 1] []) [(1, .str v1), (5, .ptr v2 v3), (9, .str v4), (11, .int .i64 v5), (12, .str v6), (83, .bool v7)] H (r7_j0 app v1 v2 v3 v4 v5 v6 v7 H) := by
  unfold r7_j0
  refine f_if (fun h1 => ?_) (fun h1 => ?_)
  · skip
    refine f_know 83 rfl (bool_T h1) ?_
    refine f_condT rfl ?_
    refine f_seq ?_
    refine f_region ?_
    refine f_op rfl rfl (s_as (v := .bool false) rfl) ?_
    refine f_nil ?_
    exact f_ret (.tmp rfl (.nil)) rfl
  · skip
    refine f_know 83 rfl (bool_F h1) ?_
    refine f_condF rfl ?_
    refine f_skip ?_
    refine f_seq ?_
    refine f_region ?_
    refine f_op rfl rfl (s_mv (v := .ptr v2 v3) rfl) ?_
    refine f_op rfl rfl (s_mv (v := .str v1) rfl) ?_
    refine o_bind ?_; intro p2 hp2
    refine f_op rfl rfl (s_callF rfl ok18 (sim18 happ hp2)) ?_
    refine f_op rfl rfl (s_mv (v := .tup [.str p2.1.1, .int .i64 p2.1.2]) rfl) ?_
    refine f_op rfl rfl (s_extract (r := .str p2.1.1) rfl rfl) ?_
    refine f_op rfl rfl (s_extract (r := .int .i64 p2.1.2) rfl rfl) ?_
    refine f_op rfl rfl (s_as (v := .str p2.1.1) rfl) ?_
    refine f_op rfl rfl (s_as (v := .int .i64 p2.1.2) rfl) ?_
    refine f_nil ?_
    refine f_seq ?_
    refine f_region ?_
    refine f_op rfl rfl (s_mv (v := .str p2.1.1) rfl) ?_
    refine f_op rfl rfl (s_mv (v := .str v4) rfl) ?_
    refine f_op rfl rfl (s_eqStr rfl rfl) ?_
    refine f_op rfl rfl (s_mv (v := .bool (strEq p2.1.1 v4)) rfl) ?_
    refine o_if (fun h3 => ?_) (fun h3 => ?_)
    · skip
      refine o_know 93 rfl (bool_T h3) ?_
      refine f_op rfl rfl (s_mv (v := .int .i64 p2.1.2) rfl) ?_
      refine f_op rfl rfl (s_eql rfl rfl) ?_
      refine f_op rfl rfl (s_pickT (v := .bool (decide (p2.1.2 = 0))) rfl rfl) ?_
      refine f_op rfl rfl (s_mv (v := .bool (decide (p2.1.2 = 0))) rfl) ?_
      refine o_if (fun h4 => ?_) (fun h4 => ?_)
      · skip
        refine o_know 97 rfl (dec_true h4) ?_
        refine f_op rfl rfl (s_mv (v := .ptr v2 v3) rfl) ?_
        refine o_bind ?_; intro p5 hp5
        refine f_op rfl rfl (s_callF rfl ok15 (sim15 hp5)) ?_
        refine f_op rfl rfl (s_mv (v := .int .i64 v5) rfl) ?_
        refine f_op rfl rfl (s_eql rfl rfl) ?_
        refine f_op rfl rfl (s_pickT (v := .bool (decide (p5.1 = v5))) rfl rfl) ?_
        refine f_op rfl rfl (s_mv (v := .bool (decide (p5.1 = v5))) rfl) ?_
        refine o_if (fun h6 => ?_) (fun h6 => ?_)
        · skip
          refine o_know 103 rfl (dec_true h6) ?_
          refine f_op rfl rfl (s_mv (v := .ptr v2 v3) rfl) ?_
          refine o_bind ?_; intro p7 hp7
          refine f_op rfl rfl (s_callF rfl ok24 (sim24 happ hp7)) ?_
          refine f_op rfl rfl (s_mv (v := .str v6) rfl) ?_
          refine f_op rfl rfl (s_eqStr rfl rfl) ?_
          refine f_op rfl rfl (s_pickT (v := .bool (strEq p7.1 v6)) rfl rfl) ?_
          refine f_op rfl rfl (s_mv (v := .bool (strEq p7.1 v6)) rfl) ?_
          refine o_if (fun h8 => ?_) (fun h8 => ?_)
          · skip
            refine o_know 109 rfl (bool_T h8) ?_
            refine o_bind ?_; intro p9 hp9
            refine o_bind ?_; intro x10 hx10
            refine f_op rfl rfl (s_callA happ rfl hp9) ?_
            refine o_know 110 rfl (asB_eq hx10) ?_
            refine f_op rfl rfl (s_pickT (v := .bool x10) rfl rfl) ?_
            refine f_op rfl rfl (s_as (v := .bool x10) rfl) ?_
            refine f_nil ?_
            exact f_ret (.tmp rfl (.nil)) rfl
          · skip
            refine o_know 109 rfl (bool_F h8) ?_
            refine f_no rfl rfl ?_
            refine f_op rfl rfl (s_pickF (v := .bool false) rfl rfl) ?_
            refine f_op rfl rfl (s_as (v := .bool false) rfl) ?_
            refine f_nil ?_
            exact f_ret (.tmp rfl (.nil)) rfl
        · skip
          refine o_know 103 rfl (dec_false h6) ?_
          refine f_no rfl rfl ?_
          refine f_no rfl rfl ?_
          refine f_no rfl rfl ?_
          refine f_no rfl rfl ?_
          refine f_op rfl rfl (s_pickF (v := .bool false) rfl rfl) ?_
          refine f_op rfl rfl (s_mv (v := .bool false) rfl) ?_
          refine f_no rfl rfl ?_
          refine f_op rfl rfl (s_pickF (v := .bool false) rfl rfl) ?_
          refine f_op rfl rfl (s_as (v := .bool false) rfl) ?_
          refine f_nil ?_
          exact f_ret (.tmp rfl (.nil)) rfl
      · skip
        refine o_know 97 rfl (dec_false h4) ?_
        refine f_no rfl rfl ?_
        refine f_no rfl rfl ?_
        refine f_no rfl rfl ?_
        refine f_no rfl rfl ?_
        refine f_op rfl rfl (s_pickF (v := .bool false) rfl rfl) ?_
        refine f_op rfl rfl (s_mv (v := .bool false) rfl) ?_
        refine f_no rfl rfl ?_
        refine f_no rfl rfl ?_
        refine f_no rfl rfl ?_
        refine f_no rfl rfl ?_
        refine f_op rfl rfl (s_pickF (v := .bool false) rfl rfl) ?_
        refine f_op rfl rfl (s_mv (v := .bool false) rfl) ?_
        refine f_no rfl rfl ?_
        refine f_op rfl rfl (s_pickF (v := .bool false) rfl rfl) ?_
        refine f_op rfl rfl (s_as (v := .bool false) rfl) ?_
        refine f_nil ?_
        exact f_ret (.tmp rfl (.nil)) rfl
    · skip
      refine o_know 93 rfl (bool_F h3) ?_
      refine f_no rfl rfl ?_
      refine f_no rfl rfl ?_
      refine f_op rfl rfl (s_pickF (v := .bool false) rfl rfl) ?_
      refine f_op rfl rfl (s_mv (v := .bool false) rfl) ?_
      refine f_no rfl rfl ?_
      refine f_no rfl rfl ?_
      refine f_no rfl rfl ?_
      refine f_no rfl rfl ?_
      refine f_op rfl rfl (s_pickF (v := .bool false) rfl rfl) ?_
      refine f_op rfl rfl (s_mv (v := .bool false) rfl) ?_
      refine f_no rfl rfl ?_
      refine f_no rfl rfl ?_
      refine f_no rfl rfl ?_
      refine f_no rfl rfl ?_
      refine f_op rfl rfl (s_pickF (v := .bool false) rfl rfl) ?_
      refine f_op rfl rfl (s_mv (v := .bool false) rfl) ?_
      refine f_no rfl rfl ?_
      refine f_op rfl rfl (s_pickF (v := .bool false) rfl rfl) ?_
      refine f_op rfl rfl (s_as (v := .bool false) rfl) ?_
      refine f_nil ?_
      exact f_ret (.tmp rfl (.nil)) rfl

theorem sim7 {app : App} (happ : AppSim Tryz.prog app) {a0 : Sl} {a1 : ByteArray} {H : Hp} {p : Bool × Hp} (h : r7 app a0 a1 H = some p) : CallSim Tryz.prog 7 [.sl a0, .str a1] H (.bool p.1) p.2 := by
  refine callSim (fn := Tryz.f7) (ret := ret7) Tryz.func7 rfl Tryz.ntmps7 rfl ?_ h
  unfold r7
  refine f_seq ?_
  refine f_region ?_
  refine f_op rfl rfl (s_as (v := .bool false) rfl) ?_
  refine f_nil ?_
  refine f_seq ?_
  refine f_region ?_
  refine f_op rfl rfl (s_mv (v := .sl a0) rfl) ?_
  refine o_bind ?_; intro p1 hp1
  refine f_op rfl rfl (s_callF rfl ok9 (sim9 happ hp1)) ?_
  refine f_op rfl rfl (s_as (v := .ptr p1.1.1 p1.1.2) rfl) ?_
  refine f_nil ?_
  refine f_seq ?_
  refine f_region ?_
  refine f_op rfl rfl (s_mv (v := .ptr p1.1.1 p1.1.2) rfl) ?_
  refine o_bind ?_; intro p2 hp2
  refine f_op rfl rfl (s_callF rfl ok15 (sim15 hp2)) ?_
  refine f_op rfl rfl (s_mv (v := .ptr p1.1.1 p1.1.2) rfl) ?_
  refine o_bind ?_; intro p3 hp3
  refine f_op rfl rfl (s_callF rfl ok24 (sim24 happ hp3)) ?_
  refine f_op rfl rfl (s_mv (v := .ptr p1.1.1 p1.1.2) rfl) ?_
  refine o_bind ?_; intro p4 hp4
  refine f_op rfl rfl (s_callF rfl ok16 (sim16 hp4)) ?_
  refine f_op rfl rfl (s_as (v := .int .i64 p2.1) rfl) ?_
  refine f_op rfl rfl (s_as (v := .str p3.1) rfl) ?_
  refine f_op rfl rfl (s_as (v := .sl p4.1) rfl) ?_
  refine f_nil ?_
  refine f_seq ?_
  refine f_region ?_
  refine f_op rfl rfl (s_mv (v := .ptr p1.1.1 p1.1.2) rfl) ?_
  refine f_op rfl rfl (s_mv (v := .str a1) rfl) ?_
  refine o_bind ?_; intro p5 hp5
  refine f_op rfl rfl (s_callF rfl ok18 (sim18 happ hp5)) ?_
  refine f_op rfl rfl (s_mv (v := .tup [.str p5.1.1, .int .i64 p5.1.2]) rfl) ?_
  refine f_op rfl rfl (s_extract (r := .str p5.1.1) rfl rfl) ?_
  refine f_op rfl rfl (s_extract (r := .int .i64 p5.1.2) rfl rfl) ?_
  refine f_op rfl rfl (s_as (v := .str p5.1.1) rfl) ?_
  refine f_op rfl rfl (s_as (v := .int .i64 p5.1.2) rfl) ?_
  refine f_nil ?_
  refine f_seq ?_
  refine f_seq ?_
  refine f_region ?_
  refine f_op rfl rfl (s_mv (v := .int .i64 p5.1.2) rfl) ?_
  refine f_op rfl rfl (s_neq rfl rfl) ?_
  refine f_nil ?_
  refine f_if (fun h6 => ?_) (fun h6 => ?_)
  · skip
    refine f_know 29 rfl (dec_true h6) ?_
    refine f_condT rfl ?_
    refine f_seq ?_
    refine f_region ?_
    refine f_op rfl rfl (s_mv (v := .str p5.1.1) rfl) ?_
    refine f_op rfl rfl (s_eqStr rfl rfl) ?_
    refine f_op rfl rfl (s_mv (v := .bool (strEq p5.1.1 (ByteArray.mk #[]))) rfl) ?_
    refine o_if (fun h7 => ?_) (fun h7 => ?_)
    · skip
      refine o_know 32 rfl (bool_T h7) ?_
      refine f_op rfl rfl (s_mv (v := .ptr p1.1.1 p1.1.2) rfl) ?_
      refine o_bind ?_; intro p8 hp8
      refine f_op rfl rfl (s_callF rfl ok15 (sim15 hp8)) ?_
      refine f_op rfl rfl (s_mv (v := .int .i64 p2.1) rfl) ?_
      refine f_op rfl rfl (s_eql rfl rfl) ?_
      refine f_op rfl rfl (s_pickT (v := .bool (decide (p8.1 = p2.1))) rfl rfl) ?_
      refine f_op rfl rfl (s_mv (v := .bool (decide (p8.1 = p2.1))) rfl) ?_
      refine o_if (fun h9 => ?_) (fun h9 => ?_)
      · skip
        refine o_know 38 rfl (dec_true h9) ?_
        refine f_op rfl rfl (s_mv (v := .ptr p1.1.1 p1.1.2) rfl) ?_
        refine o_bind ?_; intro p10 hp10
        refine f_op rfl rfl (s_callF rfl ok24 (sim24 happ hp10)) ?_
        refine f_op rfl rfl (s_mv (v := .str p3.1) rfl) ?_
        refine f_op rfl rfl (s_eqStr rfl rfl) ?_
        refine f_op rfl rfl (s_pickT (v := .bool (strEq p10.1 p3.1)) rfl rfl) ?_
        refine f_op rfl rfl (s_mv (v := .bool (strEq p10.1 p3.1)) rfl) ?_
        refine o_if (fun h11 => ?_) (fun h11 => ?_)
        · skip
          refine o_know 44 rfl (bool_T h11) ?_
          refine o_bind ?_; intro p12 hp12
          refine o_bind ?_; intro x13 hx13
          refine f_op rfl rfl (s_callA happ rfl hp12) ?_
          refine o_know 45 rfl (asB_eq hx13) ?_
          refine f_op rfl rfl (s_pickT (v := .bool x13) rfl rfl) ?_
          refine f_op rfl rfl (s_as (v := .bool x13) rfl) ?_
          refine f_nil ?_
          exact f_ret (.tmp rfl (.nil)) rfl
        · skip
          refine o_know 44 rfl (bool_F h11) ?_
          refine f_no rfl rfl ?_
          refine f_op rfl rfl (s_pickF (v := .bool false) rfl rfl) ?_
          refine f_op rfl rfl (s_as (v := .bool false) rfl) ?_
          refine f_nil ?_
          exact f_ret (.tmp rfl (.nil)) rfl
      · skip
        refine o_know 38 rfl (dec_false h9) ?_
        refine f_no rfl rfl ?_
        refine f_no rfl rfl ?_
        refine f_no rfl rfl ?_
        refine f_no rfl rfl ?_
        refine f_op rfl rfl (s_pickF (v := .bool false) rfl rfl) ?_
        refine f_op rfl rfl (s_mv (v := .bool false) rfl) ?_
        refine f_no rfl rfl ?_
        refine f_op rfl rfl (s_pickF (v := .bool false) rfl rfl) ?_
        refine f_op rfl rfl (s_as (v := .bool false) rfl) ?_
        refine f_nil ?_
        exact f_ret (.tmp rfl (.nil)) rfl
    · skip
      refine o_know 32 rfl (bool_F h7) ?_
      refine f_no rfl rfl ?_
      refine f_no rfl rfl ?_
      refine f_no rfl rfl ?_
      refine f_no rfl rfl ?_
      refine f_op rfl rfl (s_pickF (v := .bool false) rfl rfl) ?_
      refine f_op rfl rfl (s_mv (v := .bool false) rfl) ?_
      refine f_no rfl rfl ?_
      refine f_no rfl rfl ?_
      refine f_no rfl rfl ?_
      refine f_no rfl rfl ?_
      refine f_op rfl rfl (s_pickF (v := .bool false) rfl rfl) ?_
      refine f_op rfl rfl (s_mv (v := .bool false) rfl) ?_
      refine f_no rfl rfl ?_
      refine f_op rfl rfl (s_pickF (v := .bool false) rfl rfl) ?_
      refine f_op rfl rfl (s_as (v := .bool false) rfl) ?_
      refine f_nil ?_
      exact f_ret (.tmp rfl (.nil)) rfl
  · skip
    refine f_know 29 rfl (dec_false h6) ?_
    refine f_condF rfl ?_
    refine f_skip ?_
    refine f_seq ?_
    refine f_region ?_
    refine f_op rfl rfl (s_mv (v := .ptr p1.1.1 p1.1.2) rfl) ?_
    refine o_bind ?_; intro p14 hp14
    refine f_op rfl rfl (s_callF rfl ok15 (sim15 hp14)) ?_
    refine f_op rfl rfl (s_mv (v := .ptr p1.1.1 p1.1.2) rfl) ?_
    refine o_bind ?_; intro p15 hp15
    refine f_op rfl rfl (s_callF rfl ok24 (sim24 happ hp15)) ?_
    refine f_op rfl rfl (s_as (v := .int .i64 p14.1) rfl) ?_
    refine f_op rfl rfl (s_as (v := .str p15.1) rfl) ?_
    refine f_nil ?_
    refine f_seq ?_
    refine f_seq ?_
    refine f_region ?_
    refine f_op rfl rfl (s_mv (v := .ptr p1.1.1 p1.1.2) rfl) ?_
    refine o_bind ?_; intro p16 hp16
    refine f_op rfl rfl (s_callF rfl ok16 (sim16 hp16)) ?_
    refine f_op rfl rfl (s_mv (v := .sl p4.1) rfl) ?_
    refine o_bind ?_; intro p17 hp17
    refine f_op rfl rfl (s_callF rfl ok26 (sim26 hp17)) ?_
    refine f_op rfl rfl (s_mv (v := .str a1) rfl) ?_
    refine f_op rfl rfl (s_buildSlice (cs := [.str a1]) Tryz.underlying38 ty9 (by decide) (by decide) rfl (by decide) rfl) ?_
    refine o_bind ?_; intro x18 hx18
    refine f_op rfl rfl (s_ap rfl rfl Tryz.underlying38 Tryz.underlying38 ty9 rfl rfl rfl rfl rfl rfl rfl hx18) ?_
    refine o_bind ?_; intro p19 hp19
    refine f_op rfl rfl (s_callF rfl ok21 (sim21 hp19)) ?_
    refine f_op rfl rfl (s_not rfl) ?_
    refine f_op rfl rfl (s_mv (v := .bool (!p19.1)) rfl) ?_
    refine o_if (fun h20 => ?_) (fun h20 => ?_)
    · skip
      refine o_know 60 rfl (bool_notT h20) ?_
      refine f_op rfl rfl (s_mv (v := .ptr p1.1.1 p1.1.2) rfl) ?_
      refine o_bind ?_; intro p21 hp21
      refine f_op rfl rfl (s_callF rfl ok19 (sim19 hp21)) ?_
      refine f_op rfl rfl (s_neq rfl rfl) ?_
      refine f_op rfl rfl (s_pickF (v := .bool (decide (p21.1 ≠ 0))) rfl rfl) ?_
      refine f_op rfl rfl (s_mv (v := .bool (decide (p21.1 ≠ 0))) rfl) ?_
      refine o_if (fun h22 => ?_) (fun h22 => ?_)
      · skip
        refine o_know 65 rfl (dec_true h22) ?_
        refine f_no rfl rfl ?_
        refine f_no rfl rfl ?_
        refine f_no rfl rfl ?_
        refine f_no rfl rfl ?_
        refine f_op rfl rfl (s_pickT (v := .bool true) rfl rfl) ?_
        refine f_op rfl rfl (s_mv (v := .bool true) rfl) ?_
        refine f_no rfl rfl ?_
        refine f_no rfl rfl ?_
        refine f_no rfl rfl ?_
        refine f_no rfl rfl ?_
        refine f_op rfl rfl (s_pickT (v := .bool true) rfl rfl) ?_
        refine f_op rfl rfl (s_mv (v := .bool true) rfl) ?_
        refine f_no rfl rfl ?_
        refine f_no rfl rfl ?_
        refine f_no rfl rfl ?_
        refine f_no rfl rfl ?_
        refine f_no rfl rfl ?_
        refine f_op rfl rfl (s_pickT (v := .bool true) rfl rfl) ?_
        refine f_nil ?_
        refine f_keep [1, 5, 9, 11, 12, 83] ?_
        exact s7_j0 happ a1 p1.1.1 p1.1.2 p5.1.1 p14.1 p15.1 true p21.2
      · skip
        refine o_know 65 rfl (dec_false h22) ?_
        refine f_op rfl rfl (s_mv (v := .ptr p1.1.1 p1.1.2) rfl) ?_
        refine o_bind ?_; intro p23 hp23
        refine f_op rfl rfl (s_callF rfl ok15 (sim15 hp23)) ?_
        refine f_op rfl rfl (s_mv (v := .int .i64 p2.1) rfl) ?_
        refine f_op rfl rfl (s_neq rfl rfl) ?_
        refine f_op rfl rfl (s_pickF (v := .bool (decide (p23.1 ≠ p2.1))) rfl rfl) ?_
        refine f_op rfl rfl (s_mv (v := .bool (decide (p23.1 ≠ p2.1))) rfl) ?_
        refine o_if (fun h24 => ?_) (fun h24 => ?_)
        · skip
          refine o_know 71 rfl (dec_true h24) ?_
          refine f_no rfl rfl ?_
          refine f_no rfl rfl ?_
          refine f_no rfl rfl ?_
          refine f_no rfl rfl ?_
          refine f_op rfl rfl (s_pickT (v := .bool true) rfl rfl) ?_
          refine f_op rfl rfl (s_mv (v := .bool true) rfl) ?_
          refine f_no rfl rfl ?_
          refine f_no rfl rfl ?_
          refine f_no rfl rfl ?_
          refine f_no rfl rfl ?_
          refine f_no rfl rfl ?_
          refine f_op rfl rfl (s_pickT (v := .bool true) rfl rfl) ?_
          refine f_nil ?_
          refine f_keep [1, 5, 9, 11, 12, 83] ?_
          exact s7_j0 happ a1 p1.1.1 p1.1.2 p5.1.1 p14.1 p15.1 true p23.2
        · skip
          refine o_know 71 rfl (dec_false h24) ?_
          refine f_op rfl rfl (s_mv (v := .ptr p1.1.1 p1.1.2) rfl) ?_
          refine o_bind ?_; intro p25 hp25
          refine f_op rfl rfl (s_callF rfl ok24 (sim24 happ hp25)) ?_
          refine f_op rfl rfl (s_mv (v := .str p3.1) rfl) ?_
          refine f_op rfl rfl (s_neStr rfl rfl) ?_
          refine f_op rfl rfl (s_pickF (v := .bool (!(strEq p25.1 p3.1))) rfl rfl) ?_
          refine f_op rfl rfl (s_mv (v := .bool (!(strEq p25.1 p3.1))) rfl) ?_
          refine o_if (fun h26 => ?_) (fun h26 => ?_)
          · skip
            refine o_know 77 rfl (bool_notT h26) ?_
            refine f_op rfl rfl (s_mv (v := .ptr p1.1.1 p1.1.2) rfl) ?_
            refine o_bind ?_; intro p27 hp27
            refine f_op rfl rfl (s_callF rfl ok22 (sim22 hp27)) ?_
            refine f_op rfl rfl (s_mv (v := .int .i64 p14.1) rfl) ?_
            refine o_bind ?_; intro p28 hp28
            refine f_op rfl rfl (s_callF rfl ok23 (sim23 hp28)) ?_
            refine f_op rfl rfl (s_not rfl) ?_
            refine f_op rfl rfl (s_pickF (v := .bool (!p28.1)) rfl rfl) ?_
            refine f_nil ?_
            refine f_keep [1, 5, 9, 11, 12, 83] ?_
            exact s7_j0 happ a1 p1.1.1 p1.1.2 p5.1.1 p14.1 p15.1 (!p28.1) p28.2
          · skip
            refine o_know 77 rfl (bool_notF h26) ?_
            refine f_no rfl rfl ?_
            refine f_no rfl rfl ?_
            refine f_no rfl rfl ?_
            refine f_no rfl rfl ?_
            refine f_no rfl rfl ?_
            refine f_op rfl rfl (s_pickT (v := .bool true) rfl rfl) ?_
            refine f_nil ?_
            refine f_keep [1, 5, 9, 11, 12, 83] ?_
            exact s7_j0 happ a1 p1.1.1 p1.1.2 p5.1.1 p14.1 p15.1 true p25.2
    · skip
      refine o_know 60 rfl (bool_notF h20) ?_
      refine f_no rfl rfl ?_
      refine f_no rfl rfl ?_
      refine f_no rfl rfl ?_
      refine f_op rfl rfl (s_pickT (v := .bool true) rfl rfl) ?_
      refine f_op rfl rfl (s_mv (v := .bool true) rfl) ?_
      refine f_no rfl rfl ?_
      refine f_no rfl rfl ?_
      refine f_no rfl rfl ?_
      refine f_no rfl rfl ?_
      refine f_op rfl rfl (s_pickT (v := .bool true) rfl rfl) ?_
      refine f_op rfl rfl (s_mv (v := .bool true) rfl) ?_
      refine f_no rfl rfl ?_
      refine f_no rfl rfl ?_
      refine f_no rfl rfl ?_
      refine f_no rfl rfl ?_
      refine f_op rfl rfl (s_pickT (v := .bool true) rfl rfl) ?_
      refine f_op rfl rfl (s_mv (v := .bool true) rfl) ?_
      refine f_no rfl rfl ?_
      refine f_no rfl rfl ?_
      refine f_no rfl rfl ?_
      refine f_no rfl rfl ?_
      refine f_no rfl rfl ?_
      refine f_op rfl rfl (s_pickT (v := .bool true) rfl rfl) ?_
      refine f_nil ?_
      refine f_keep [1, 5, 9, 11, 12, 83] ?_
      exact s7_j0 happ a1 p1.1.1 p1.1.2 p5.1.1 p14.1 p15.1 true p19.2

/- 41 (*congou/chest.Chest).has$1 -/
theorem ok41 : FnOk Tryz.prog 41 := ⟨⟨Tryz.f41, Tryz.func41, by kernel_rfl, rfl⟩⟩
theorem sim41 {a0 : Int} {c0 : Nat} {H : Hp} {p : Bool × Hp} (h : r41 a0 c0 H = some p) : CallSim Tryz.prog 41 [.int .i64 a0, .ptr c0 0] H (.bool p.1) p.2 := by
  refine callSim (fn := Tryz.f41) (ret := ret41) Tryz.func41 rfl Tryz.ntmps41 rfl ?_ h
  unfold r41
  refine f_seq ?_
  refine f_region ?_
  refine f_op rfl rfl (s_as (v := .bool false) rfl) ?_
  refine f_nil ?_
  refine f_seq ?_
  refine f_region ?_
  refine f_op rfl rfl (s_mv (v := .int .i64 a0) rfl) ?_
  refine f_op rfl rfl (s_lss rfl rfl) ?_
  refine f_op rfl rfl (s_mv (v := .bool (decide (a0 < 0))) rfl) ?_
  refine o_if (fun h1 => ?_) (fun h1 => ?_)
  · skip
    refine o_know 6 rfl (dec_true h1) ?_
    refine f_no rfl rfl ?_
    refine f_no rfl rfl ?_
    refine f_no rfl rfl ?_
    refine f_no rfl rfl ?_
    refine f_no rfl rfl ?_
    refine f_no rfl rfl ?_
    refine f_no rfl rfl ?_
    refine f_op rfl rfl (s_pickT (v := .bool true) rfl rfl) ?_
    refine f_op rfl rfl (s_as (v := .bool true) rfl) ?_
    refine f_nil ?_
    exact f_ret (.tmp rfl (.nil)) rfl
  · skip
    refine o_know 6 rfl (dec_false h1) ?_
    refine f_op rfl rfl (s_mv (v := .int .i64 a0) rfl) ?_
    refine o_bind ?_; intro x2 hx2
    refine f_op rfl rfl (s_load Tryz.underlying23 rfl rfl (ldP_eq hx2)) ?_
    refine f_op rfl rfl (s_nilCheck rfl) ?_
    refine f_op rfl rfl (s_fieldAddr Tryz.underlying56 rfl ty54 rfl) ?_
    refine o_bind ?_; intro x3 hx3
    refine f_op rfl rfl (s_load Tryz.underlying54 rfl rfl (ldSl_eq hx3)) ?_
    refine f_op rfl rfl (s_lenS rfl Tryz.underlying54 rfl) ?_
    refine f_op rfl rfl (s_geq rfl rfl) ?_
    refine f_op rfl rfl (s_pickF (v := .bool (decide ((x3.len : Int) ≤ a0))) rfl rfl) ?_
    refine f_op rfl rfl (s_as (v := .bool (decide ((x3.len : Int) ≤ a0))) rfl) ?_
    refine f_nil ?_
    exact f_ret (.tmp rfl (.nil)) rfl

/- 101 slices.IndexFunc[[]congou/chest.leaf,congou/chest.leaf] -/
theorem ok101 : FnOk Tryz.prog 101 := ⟨⟨Tryz.f101, Tryz.func101, by kernel_rfl, rfl⟩⟩
theorem s101_l0 {app : App} (happ : AppSim Tryz.prog app) : ∀ (k_ : Nat) (v1 : Sl) (v2 : AV) (v3 : Int) (v4 : Int) (H : Hp), Fin Tryz.prog Tryz.f101 ret101 19 (todoAt (bodyOf Tryz.f101) [1, 0, 1, 0, 0] []) [(0, .sl v1), (1, v2), (7, .int .i64 v3), (8, .int .i64 v4)] H (r101_l0 app k_ v1 v2 v3 v4 H) := by
  intro k_
  induction k_ with
  | zero => intro _ _ _ _ _; exact f_none
  | succ k_ ih =>
    intro v1 v2 v3 v4 H
    rw [r101_l0]
    refine f_seq ?_
    refine f_region ?_
    refine f_op rfl rfl (s_lss rfl rfl) ?_
    refine f_nil ?_
    refine f_seq ?_
    refine f_if (fun h1 => ?_) (fun h1 => ?_)
    · skip
      refine f_know 9 rfl (dec_true h1) ?_
      refine f_condT rfl ?_
      refine f_skip ?_
      refine f_seq ?_
      refine f_block ?_
      refine f_seq ?_
      refine f_region ?_
      refine f_op rfl rfl (s_mv (v := .int .i64 v4) rfl) ?_
      refine f_op rfl rfl (s_as (v := .int .i64 v4) rfl) ?_
      refine f_nil ?_
      refine f_seq ?_
      refine f_region ?_
      refine f_op rfl rfl (s_mv (v := v2) rfl) ?_
      refine f_op rfl rfl (s_mv (v := .sl v1) rfl) ?_
      refine f_op rfl rfl (s_mv (v := .int .i64 v4) rfl) ?_
      refine o_ck fun g2 => ?_
      refine f_op rfl rfl (s_idx Tryz.underlying64 ty93 rfl rfl g2) ?_
      refine o_bind ?_; intro x3 hx3
      refine o_bind ?_; intro x4 hx4
      refine f_op rfl rfl (s_loads Tryz.underlying93 rfl ty93 rfl (lds_cons (ldStr_eq hx3) (lds_cons (ldI_eq hx4) (lds_nil)))) ?_
      refine o_bind ?_; intro p5 hp5
      refine o_bind ?_; intro x6 hx6
      refine f_op rfl rfl (s_callv happ rfl rfl hp5) ?_
      refine o_know 16 rfl (asB_eq hx6) ?_
      refine f_nil ?_
      refine f_if (fun h7 => ?_) (fun h7 => ?_)
      · skip
        refine f_know 16 rfl (bool_T h7) ?_
        refine f_condT rfl ?_
        refine f_seq ?_
        refine f_region ?_
        refine f_op rfl rfl (s_mv (v := .int .i64 v4) rfl) ?_
        refine f_op rfl rfl (s_as (v := .int .i64 v4) rfl) ?_
        refine f_nil ?_
        exact f_ret (.tmp rfl (.nil)) rfl
      · skip
        refine f_know 16 rfl (bool_F h7) ?_
        refine f_condF rfl ?_
        refine f_skip ?_
        refine f_inBlock ?_
        refine f_region ?_
        refine f_op rfl rfl (s_add rfl rfl) ?_
        refine f_op rfl rfl (s_mv (v := .int .i64 (w64 (v4 + 1))) rfl) ?_
        refine f_nil ?_
        refine f_inLoop ?_
        refine f_keep [0, 1, 7, 8] ?_
        exact ih v1 v2 v3 (w64 (v4 + 1)) p5.2
    · skip
      refine f_know 9 rfl (dec_false h1) ?_
      refine f_condF rfl ?_
      refine f_exit rfl ?_
      refine f_seq ?_
      refine f_region ?_
      refine f_op rfl rfl (s_as (v := .int .i64 (-1)) rfl) ?_
      refine f_nil ?_
      exact f_ret (.tmp rfl (.nil)) rfl

theorem sim101 {app : App} (happ : AppSim Tryz.prog app) {a0 : Sl} {a1 : AV} {H : Hp} {p : Int × Hp} (h : r101 app a0 a1 H = some p) : CallSim Tryz.prog 101 [.sl a0, a1] H (.int .i64 p.1) p.2 := by
  refine callSim (fn := Tryz.f101) (ret := ret101) Tryz.func101 rfl Tryz.ntmps101 rfl ?_ h
  unfold r101
  refine f_seq ?_
  refine f_region ?_
  refine f_op rfl rfl (s_as (v := .int .i64 0) rfl) ?_
  refine f_nil ?_
  refine f_seq ?_
  refine f_seq ?_
  refine f_region ?_
  refine f_op rfl rfl (s_mv (v := .sl a0) rfl) ?_
  refine f_op rfl rfl (s_lenS rfl Tryz.underlying64 rfl) ?_
  refine f_op rfl rfl (s_mv (v := .int .i64 0) rfl) ?_
  refine f_nil ?_
  refine f_block ?_
  refine f_loop ?_
  refine f_keep [0, 1, 7, 8] ?_
  exact s101_l0 happ FUEL a0 a1 (a0.len : Int) 0 H

/- 75 (*congou/chest.state).find -/
theorem ok75 : FnOk Tryz.prog 75 := ⟨⟨Tryz.f75, Tryz.func75, by kernel_rfl, rfl⟩⟩
theorem sim75 {app : App} (happ : AppSim Tryz.prog app) {a0b : Nat} {a0o : Nat} {a1 : ByteArray} {H : Hp} {p : Int × Hp} (h : r75 app a0b a0o a1 H = some p) : CallSim Tryz.prog 75 [.ptr a0b a0o, .str a1] H (.int .i64 p.1) p.2 := by
  refine callSim (fn := Tryz.f75) (ret := ret75) Tryz.func75 rfl Tryz.ntmps75 rfl ?_ h
  unfold r75
  refine f_seq ?_
  refine f_region ?_
  refine f_op rfl rfl (s_box1 (v := .str a1) rfl rfl) ?_
  refine f_op rfl rfl (s_as (v := .int .i64 0) rfl) ?_
  refine o_hp ?_; intro H1 hH1
  refine f_nil ?_
  refine f_seq ?_
  refine f_region ?_
  refine f_op rfl rfl (s_mv (v := .ptr a0b a0o) rfl) ?_
  refine f_op rfl rfl (s_nilCheck rfl) ?_
  refine f_op rfl rfl (s_fieldAddr Tryz.underlying69 rfl ty64 rfl) ?_
  refine o_bind ?_; intro x2 hx2
  refine f_op rfl rfl (s_load Tryz.underlying64 rfl rfl (ldSl_eq hx2)) ?_
  refine f_op rfl rfl (s_makeFunc rfl rfl) ?_
  refine o_bind ?_; intro p3 hp3
  refine f_op rfl rfl (s_callF rfl ok101 (sim101 happ hp3)) ?_
  refine f_op rfl rfl (s_as (v := .int .i64 p3.1) rfl) ?_
  refine f_nil ?_
  exact f_ret (.tmp rfl (.nil)) rfl

/- 44 (*congou/chest.state).leaf -/
theorem ok44 : FnOk Tryz.prog 44 := ⟨⟨Tryz.f44, Tryz.func44, by kernel_rfl, rfl⟩⟩
theorem sim44 {app : App} (happ : AppSim Tryz.prog app) {a0b : Nat} {a0o : Nat} {a1_0 : Sl} {a1_1 : Sl} {H : Hp} {p : Int × Hp} (h : r44 app a0b a0o a1_0 a1_1 H = some p) : CallSim Tryz.prog 44 [.ptr a0b a0o, .agg [.sl a1_0, .sl a1_1]] H (.int .i64 p.1) p.2 := by
  refine callSim (fn := Tryz.f44) (ret := ret44) Tryz.func44 rfl Tryz.ntmps44 rfl ?_ h
  unfold r44
  refine f_seq ?_
  refine f_region ?_
  refine f_op rfl rfl (s_box (v := .agg [.sl a1_0, .sl a1_1]) rfl rfl) ?_
  refine f_op rfl rfl (s_as (v := .int .i64 0) rfl) ?_
  refine o_hp ?_; intro H1 hH1
  refine f_nil ?_
  refine f_seq ?_
  refine f_block ?_
  refine f_seq ?_
  refine f_region ?_
  refine f_op rfl rfl (s_mv (v := .ptr a0b a0o) rfl) ?_
  refine f_op rfl rfl (s_fieldAddr Tryz.underlying84 rfl ty38 rfl) ?_
  refine o_bind ?_; intro x2 hx2
  refine f_op rfl rfl (s_load Tryz.underlying38 rfl rfl (ldSl_eq hx2)) ?_
  refine o_ck fun g3 => ?_
  refine f_op rfl rfl (s_idx Tryz.underlying38 ty9 rfl rfl g3) ?_
  refine o_bind ?_; intro x4 hx4
  refine f_op rfl rfl (s_load Tryz.underlying9 rfl rfl (ldStr_eq hx4)) ?_
  refine o_bind ?_; intro p5 hp5
  refine f_op rfl rfl (s_callF rfl ok75 (sim75 happ hp5)) ?_
  refine f_op rfl rfl (s_geq rfl rfl) ?_
  refine f_op rfl rfl (s_as (v := .bool (decide (0 ≤ p5.1))) rfl) ?_
  refine f_nil ?_
  refine f_if (fun h6 => ?_) (fun h6 => ?_)
  · skip
    refine f_know 5 rfl (dec_true h6) ?_
    refine f_condT rfl ?_
    refine f_seq ?_
    refine f_region ?_
    refine f_op rfl rfl (s_as (v := .int .i64 5) rfl) ?_
    refine f_nil ?_
    exact f_ret (.tmp rfl (.nil)) rfl
  · skip
    refine f_know 5 rfl (dec_false h6) ?_
    refine f_condF rfl ?_
    refine f_seq ?_
    refine f_region ?_
    refine f_op rfl rfl (s_fieldAddr Tryz.underlying84 rfl ty30 rfl) ?_
    refine o_bind ?_; intro x7 hx7
    refine f_op rfl rfl (s_load Tryz.underlying30 rfl rfl (ldSl_eq hx7)) ?_
    refine o_ck fun g8 => ?_
    refine f_op rfl rfl (s_idx Tryz.underlying30 ty3 rfl rfl g8) ?_
    refine o_bind ?_; intro x9 hx9
    refine f_op rfl rfl (s_load Tryz.underlying3 rfl rfl (ldI_eq hx9)) ?_
    refine f_op rfl rfl (s_gtr rfl rfl) ?_
    refine f_op rfl rfl (s_as (v := .bool (decide (20 < x9))) rfl) ?_
    refine f_nil ?_
    refine f_if (fun h10 => ?_) (fun h10 => ?_)
    · skip
      refine f_know 13 rfl (dec_true h10) ?_
      refine f_condT rfl ?_
      refine f_seq ?_
      refine f_region ?_
      refine f_op rfl rfl (s_as (v := .int .i64 2) rfl) ?_
      refine f_nil ?_
      exact f_ret (.tmp rfl (.nil)) rfl
    · skip
      refine f_know 13 rfl (dec_false h10) ?_
      refine f_condF rfl ?_
      refine f_seq ?_
      refine f_region ?_
      refine f_op rfl rfl (s_mv (v := .ptr a0b a0o) rfl) ?_
      refine f_op rfl rfl (s_nilCheck rfl) ?_
      refine f_op rfl rfl (s_fieldAddr Tryz.underlying69 rfl ty64 rfl) ?_
      refine o_bind ?_; intro x11 hx11
      refine f_op rfl rfl (s_load Tryz.underlying64 rfl rfl (ldSl_eq hx11)) ?_
      refine f_op rfl rfl (s_lenS rfl Tryz.underlying64 rfl) ?_
      refine f_op rfl rfl (s_eql rfl rfl) ?_
      refine f_op rfl rfl (s_as (v := .bool (decide ((x11.len : Int) = 6))) rfl) ?_
      refine f_nil ?_
      refine f_if (fun h12 => ?_) (fun h12 => ?_)
      · skip
        refine f_know 19 rfl (dec_true h12) ?_
        refine f_condT rfl ?_
        refine f_seq ?_
        refine f_region ?_
        refine f_op rfl rfl (s_as (v := .int .i64 7) rfl) ?_
        refine f_nil ?_
        exact f_ret (.tmp rfl (.nil)) rfl
      · skip
        refine f_know 19 rfl (dec_false h12) ?_
        refine f_condF rfl ?_
        refine f_skip ?_
        refine f_inBlock ?_
        refine f_seq ?_
        refine f_bind ?_; intro x13 hx13
        refine f_bind ?_; intro x14 hx14
        refine f_ck fun g15 => ?_
        refine f_bind ?_; intro x16 hx16
        refine f_bind ?_; intro x17 hx17
        refine f_ck fun g18 => ?_
        refine f_bind ?_; intro x19 hx19
        refine f_bind ?_; intro x20 hx20
        refine f_bind ?_; intro H21 hH21
        refine f_drawF (Φ := fun _ => True) (lim := 1000000) [0, 0, 0, 0, 1, 0, 1, 0, 1, 0, 1, 0, 1, 0, 2, 2, 0, 0, 2] [false, false, false, false, false, false, false, false, false, false, false, false, false, false, true, false, false, false, false] 14 15 (Trc.pure rfl rfl rfl (.inl fun _ => s_mv (v := .ptr a0b a0o) rfl) (Trc.pure rfl rfl rfl (.inl fun _ => s_mv (v := .ptr a0b a0o) rfl) (Trc.pure rfl rfl rfl (.inl fun _ => s_nilCheck rfl) (Trc.pure rfl rfl rfl (.inl fun _ => s_fieldAddr Tryz.underlying69 rfl ty64 rfl) (Trc.read rfl rfl rfl (s_load Tryz.underlying64 rfl rfl (ldSl_eq hx13)) (Trc.pure rfl rfl rfl (.inl fun _ => s_fieldAddr Tryz.underlying84 rfl ty38 rfl) (Trc.read rfl rfl rfl (s_load Tryz.underlying38 rfl rfl (ldSl_eq hx14)) (Trc.pure rfl rfl rfl (.inl fun _ => s_idx Tryz.underlying38 ty9 rfl rfl g15) (Trc.read rfl rfl rfl (s_load Tryz.underlying9 rfl rfl (ldStr_eq hx16)) (Trc.pure rfl rfl rfl (.inl fun _ => s_fieldAddr Tryz.underlying84 rfl ty30 rfl) (Trc.read rfl rfl rfl (s_load Tryz.underlying30 rfl rfl (ldSl_eq hx17)) (Trc.pure rfl rfl rfl (.inl fun _ => s_idx Tryz.underlying30 ty3 rfl rfl g18) (Trc.read rfl rfl rfl (s_load Tryz.underlying3 rfl rfl (ldI_eq hx19)) (Trc.pure rfl rfl rfl (.inl fun _ => s_build (cs := [.str x16, .int .i64 x19]) Tryz.underlying93 ty93 rfl pl93 rfl) (Trc.fl (.s 1) rfl rfl rfl (fun _ => trivial) rfl (by rfl) (fun _ => s_buildSlice (cs := [.str x16, .int .i64 x19]) Tryz.underlying64 ty93 (by decide) (by decide) rfl (by decide) rfl) (Trc.eff rfl rfl rfl (fun _ => trivial) (s_ap rfl rfl Tryz.underlying64 Tryz.underlying64 ty93 rfl rfl rfl rfl rfl rfl rfl hx20) (Trc.pure rfl rfl rfl (.inl fun _ => s_nilCheck rfl) (Trc.pure rfl rfl rfl (.inl fun _ => s_fieldAddr Tryz.underlying69 rfl ty64 rfl) (Trc.eff rfl rfl rfl (fun _ => trivial) (s_store (s := 1) ty64 rfl rfl rfl hH21) (Trc.nil (fun _ => trivial))))))))))))))))))))) rfl rfl (by decide +kernel) mixed ?_
        refine f_seq ?_
        refine f_region ?_
        refine f_op rfl rfl (s_as (v := .int .i64 0) rfl) ?_
        refine f_nil ?_
        exact f_ret (.tmp rfl (.nil)) rfl

/- 76 (*congou/chest.state).stocks -/
theorem ok76 : FnOk Tryz.prog 76 := ⟨⟨Tryz.f76, Tryz.func76, by kernel_rfl, rfl⟩⟩
theorem s76_l0 : ∀ (k_ : Nat) (v1 : Sl) (v2 : Sl) (v3 : Int) (v4 : Int) (H : Hp), Fin Tryz.prog Tryz.f76 ret76 22 (todoAt (bodyOf Tryz.f76) [1, 1, 0, 1, 0, 0] []) [(3, .sl v1), (9, .sl v2), (10, .int .i64 v3), (11, .int .i64 v4)] H (r76_l0 k_ v1 v2 v3 v4 H) := by
  intro k_
  induction k_ with
  | zero => intro _ _ _ _ _; exact f_none
  | succ k_ ih =>
    intro v1 v2 v3 v4 H
    rw [r76_l0]
    refine f_seq ?_
    refine f_region ?_
    refine f_op rfl rfl (s_lss rfl rfl) ?_
    refine f_nil ?_
    refine f_seq ?_
    refine f_if (fun h1 => ?_) (fun h1 => ?_)
    · skip
      refine f_know 12 rfl (dec_true h1) ?_
      refine f_condT rfl ?_
      refine f_skip ?_
      refine f_seq ?_
      refine f_block ?_
      refine f_seq ?_
      refine f_region ?_
      refine o_ck fun g2 => ?_
      refine f_op rfl rfl (s_idx Tryz.underlying64 ty93 rfl rfl g2) ?_
      refine o_bind ?_; intro x3 hx3
      refine o_bind ?_; intro x4 hx4
      refine f_op rfl rfl (s_loads Tryz.underlying93 rfl ty93 rfl (lds_cons (ldStr_eq hx3) (lds_cons (ldI_eq hx4) (lds_nil)))) ?_
      refine f_op rfl rfl (s_alloc (zs := [.str (ByteArray.mk #[]), .int .i64 0]) ty93 rfl rfl) ?_
      refine o_bind ?_; intro H5 hH5
      refine f_op rfl rfl (s_stores ty93 rfl rfl rfl rfl hH5 (Nat.le_of_eq (sts_mono hH5).symm)) ?_
      refine f_nil ?_
      refine f_region ?_
      refine f_op rfl rfl (s_mv (v := .sl v1) rfl) ?_
      refine f_op rfl rfl (s_fieldAddr Tryz.underlying93 rfl ty3 rfl) ?_
      refine o_bind ?_; intro x6 hx6
      refine f_op rfl rfl (s_load Tryz.underlying3 rfl rfl (ldI_eq hx6)) ?_
      refine f_op rfl rfl (s_buildSlice (cs := [.int .i64 x6]) Tryz.underlying30 ty3 (by decide) (by decide) rfl (by decide) rfl) ?_
      refine o_bind ?_; intro x7 hx7
      refine f_op rfl rfl (s_ap rfl rfl Tryz.underlying30 Tryz.underlying30 ty3 rfl rfl rfl rfl rfl rfl rfl hx7) ?_
      refine f_op rfl rfl (s_as (v := .sl x7.1) rfl) ?_
      refine f_nil ?_
      refine f_inBlock ?_
      refine f_region ?_
      refine f_op rfl rfl (s_add rfl rfl) ?_
      refine f_op rfl rfl (s_mv (v := .int .i64 (w64 (v4 + 1))) rfl) ?_
      refine f_nil ?_
      refine f_inLoop ?_
      refine f_keep [3, 9, 10, 11] ?_
      exact ih x7.1 v2 v3 (w64 (v4 + 1)) x7.2
    · skip
      refine f_know 12 rfl (dec_false h1) ?_
      refine f_condF rfl ?_
      refine f_exit rfl ?_
      refine f_seq ?_
      refine f_region ?_
      refine f_op rfl rfl (s_mv (v := .sl v1) rfl) ?_
      refine f_op rfl rfl (s_as (v := .sl v1) rfl) ?_
      refine f_nil ?_
      exact f_ret (.tmp rfl (.nil)) rfl

theorem sim76 {a0b : Nat} {a0o : Nat} {H : Hp} {p : Sl × Hp} (h : r76 a0b a0o H = some p) : CallSim Tryz.prog 76 [.ptr a0b a0o] H (.sl p.1) p.2 := by
  refine callSim (fn := Tryz.f76) (ret := ret76) Tryz.func76 rfl Tryz.ntmps76 rfl ?_ h
  unfold r76
  refine f_seq ?_
  refine f_region ?_
  refine f_op rfl rfl (s_as (v := .sl ⟨true, 0, 0, 0, 0, 0⟩) rfl) ?_
  refine f_nil ?_
  refine f_seq ?_
  refine f_region ?_
  refine f_op rfl rfl (s_as (v := .sl ⟨true, 0, 0, 0, 0, 0⟩) rfl) ?_
  refine f_nil ?_
  refine f_seq ?_
  refine f_seq ?_
  refine f_region ?_
  refine f_op rfl rfl (s_mv (v := .ptr a0b a0o) rfl) ?_
  refine f_op rfl rfl (s_nilCheck rfl) ?_
  refine f_op rfl rfl (s_fieldAddr Tryz.underlying69 rfl ty64 rfl) ?_
  refine o_bind ?_; intro x1 hx1
  refine f_op rfl rfl (s_load Tryz.underlying64 rfl rfl (ldSl_eq hx1)) ?_
  refine f_op rfl rfl (s_lenS rfl Tryz.underlying64 rfl) ?_
  refine f_op rfl rfl (s_mv (v := .int .i64 0) rfl) ?_
  refine f_nil ?_
  refine f_block ?_
  refine f_loop ?_
  refine f_keep [3, 9, 10, 11] ?_
  exact s76_l0 FUEL ⟨true, 0, 0, 0, 0, 0⟩ x1 (x1.len : Int) 0 H

/- 156 slices.Min[[]int,int] -/
theorem ok156 : FnOk Tryz.prog 156 := ⟨⟨Tryz.f156, Tryz.func156, by kernel_rfl, rfl⟩⟩
theorem s156_l0 : ∀ (k_ : Nat) (v1 : Sl) (v2 : Int) (v3 : Int) (H : Hp), Fin Tryz.prog Tryz.f156 ret156 25 (todoAt (bodyOf Tryz.f156) [1, 1, 1, 0, 1, 0, 0] []) [(0, .sl v1), (3, .int .i64 v2), (4, .int .i64 v3)] H (r156_l0 k_ v1 v2 v3 H) := by
  intro k_
  induction k_ with
  | zero => intro _ _ _ _; exact f_none
  | succ k_ ih =>
    intro v1 v2 v3 H
    rw [r156_l0]
    refine f_seq ?_
    refine f_seq ?_
    refine f_region ?_
    refine f_op rfl rfl (s_mv (v := .int .i64 v3) rfl) ?_
    refine f_op rfl rfl (s_mv (v := .sl v1) rfl) ?_
    refine f_op rfl rfl (s_lenS rfl Tryz.underlying30 rfl) ?_
    refine f_op rfl rfl (s_lss rfl rfl) ?_
    refine f_nil ?_
    refine f_if (fun h1 => ?_) (fun h1 => ?_)
    · skip
      refine f_know 15 rfl (dec_true h1) ?_
      refine f_condT rfl ?_
      refine f_skip ?_
      refine f_seq ?_
      refine f_block ?_
      refine f_region ?_
      refine f_op rfl rfl (s_mv (v := .int .i64 v2) rfl) ?_
      refine f_op rfl rfl (s_mv (v := .sl v1) rfl) ?_
      refine f_op rfl rfl (s_mv (v := .int .i64 v3) rfl) ?_
      refine o_ck fun g2 => ?_
      refine f_op rfl rfl (s_idx Tryz.underlying30 ty3 rfl rfl g2) ?_
      refine o_bind ?_; intro x3 hx3
      refine f_op rfl rfl (s_load Tryz.underlying3 rfl rfl (ldI_eq hx3)) ?_
      refine f_op rfl rfl (s_min2 rfl rfl) ?_
      refine f_op rfl rfl (s_as (v := .int .i64 (if x3 < v2 then x3 else v2)) rfl) ?_
      refine f_nil ?_
      refine f_inBlock ?_
      refine f_region ?_
      refine f_op rfl rfl (s_mv (v := .int .i64 v3) rfl) ?_
      refine f_op rfl rfl (s_add rfl rfl) ?_
      refine f_op rfl rfl (s_as (v := .int .i64 (w64 (v3 + 1))) rfl) ?_
      refine f_nil ?_
      refine f_inLoop ?_
      refine f_keep [0, 3, 4] ?_
      exact ih v1 (if x3 < v2 then x3 else v2) (w64 (v3 + 1)) H
    · skip
      refine f_know 15 rfl (dec_false h1) ?_
      refine f_condF rfl ?_
      refine f_exit rfl ?_
      refine f_seq ?_
      refine f_region ?_
      refine f_op rfl rfl (s_mv (v := .int .i64 v2) rfl) ?_
      refine f_op rfl rfl (s_as (v := .int .i64 v2) rfl) ?_
      refine f_nil ?_
      exact f_ret (.tmp rfl (.nil)) rfl

theorem sim156 {a0 : Sl} {H : Hp} {p : Int × Hp} (h : r156 a0 H = some p) : CallSim Tryz.prog 156 [.sl a0] H (.int .i64 p.1) p.2 := by
  refine callSim (fn := Tryz.f156) (ret := ret156) Tryz.func156 rfl Tryz.ntmps156 rfl ?_ h
  unfold r156
  refine f_seq ?_
  refine f_region ?_
  refine f_op rfl rfl (s_as (v := .int .i64 0) rfl) ?_
  refine f_nil ?_
  refine f_seq ?_
  refine f_seq ?_
  refine f_region ?_
  refine f_op rfl rfl (s_mv (v := .sl a0) rfl) ?_
  refine f_op rfl rfl (s_lenS rfl Tryz.underlying30 rfl) ?_
  refine f_op rfl rfl (s_lss rfl rfl) ?_
  refine f_nil ?_
  refine f_if (fun h1 => ?_) (fun h1 => ?_)
  · skip
    refine f_know 7 rfl (dec_true h1) ?_
    refine f_condT rfl ?_
    refine f_region ?_
    exact o_none
  · skip
    refine f_know 7 rfl (dec_false h1) ?_
    refine f_condF rfl ?_
    refine f_skip ?_
    refine f_seq ?_
    refine f_region ?_
    refine f_op rfl rfl (s_mv (v := .sl a0) rfl) ?_
    refine o_ck fun g2 => ?_
    refine f_op rfl rfl (s_idx Tryz.underlying30 ty3 rfl rfl g2) ?_
    refine o_bind ?_; intro x3 hx3
    refine f_op rfl rfl (s_load Tryz.underlying3 rfl rfl (ldI_eq hx3)) ?_
    refine f_op rfl rfl (s_as (v := .int .i64 x3) rfl) ?_
    refine f_nil ?_
    refine f_seq ?_
    refine f_seq ?_
    refine f_region ?_
    refine f_op rfl rfl (s_as (v := .int .i64 1) rfl) ?_
    refine f_nil ?_
    refine f_block ?_
    refine f_loop ?_
    refine f_keep [0, 3, 4] ?_
    exact s156_l0 FUEL a0 x3 1 H

/- 157 slices.Max[[]int,int] -/
theorem ok157 : FnOk Tryz.prog 157 := ⟨⟨Tryz.f157, Tryz.func157, by kernel_rfl, rfl⟩⟩
theorem s157_l0 : ∀ (k_ : Nat) (v1 : Sl) (v2 : Int) (v3 : Int) (H : Hp), Fin Tryz.prog Tryz.f157 ret157 25 (todoAt (bodyOf Tryz.f157) [1, 1, 1, 0, 1, 0, 0] []) [(0, .sl v1), (3, .int .i64 v2), (4, .int .i64 v3)] H (r157_l0 k_ v1 v2 v3 H) := by
  intro k_
  induction k_ with
  | zero => intro _ _ _ _; exact f_none
  | succ k_ ih =>
    intro v1 v2 v3 H
    rw [r157_l0]
    refine f_seq ?_
    refine f_seq ?_
    refine f_region ?_
    refine f_op rfl rfl (s_mv (v := .int .i64 v3) rfl) ?_
    refine f_op rfl rfl (s_mv (v := .sl v1) rfl) ?_
    refine f_op rfl rfl (s_lenS rfl Tryz.underlying30 rfl) ?_
    refine f_op rfl rfl (s_lss rfl rfl) ?_
    refine f_nil ?_
    refine f_if (fun h1 => ?_) (fun h1 => ?_)
    · skip
      refine f_know 15 rfl (dec_true h1) ?_
      refine f_condT rfl ?_
      refine f_skip ?_
      refine f_seq ?_
      refine f_block ?_
      refine f_region ?_
      refine f_op rfl rfl (s_mv (v := .int .i64 v2) rfl) ?_
      refine f_op rfl rfl (s_mv (v := .sl v1) rfl) ?_
      refine f_op rfl rfl (s_mv (v := .int .i64 v3) rfl) ?_
      refine o_ck fun g2 => ?_
      refine f_op rfl rfl (s_idx Tryz.underlying30 ty3 rfl rfl g2) ?_
      refine o_bind ?_; intro x3 hx3
      refine f_op rfl rfl (s_load Tryz.underlying3 rfl rfl (ldI_eq hx3)) ?_
      refine f_op rfl rfl (s_max2 rfl rfl) ?_
      refine f_op rfl rfl (s_as (v := .int .i64 (if v2 < x3 then x3 else v2)) rfl) ?_
      refine f_nil ?_
      refine f_inBlock ?_
      refine f_region ?_
      refine f_op rfl rfl (s_mv (v := .int .i64 v3) rfl) ?_
      refine f_op rfl rfl (s_add rfl rfl) ?_
      refine f_op rfl rfl (s_as (v := .int .i64 (w64 (v3 + 1))) rfl) ?_
      refine f_nil ?_
      refine f_inLoop ?_
      refine f_keep [0, 3, 4] ?_
      exact ih v1 (if v2 < x3 then x3 else v2) (w64 (v3 + 1)) H
    · skip
      refine f_know 15 rfl (dec_false h1) ?_
      refine f_condF rfl ?_
      refine f_exit rfl ?_
      refine f_seq ?_
      refine f_region ?_
      refine f_op rfl rfl (s_mv (v := .int .i64 v2) rfl) ?_
      refine f_op rfl rfl (s_as (v := .int .i64 v2) rfl) ?_
      refine f_nil ?_
      exact f_ret (.tmp rfl (.nil)) rfl

theorem sim157 {a0 : Sl} {H : Hp} {p : Int × Hp} (h : r157 a0 H = some p) : CallSim Tryz.prog 157 [.sl a0] H (.int .i64 p.1) p.2 := by
  refine callSim (fn := Tryz.f157) (ret := ret157) Tryz.func157 rfl Tryz.ntmps157 rfl ?_ h
  unfold r157
  refine f_seq ?_
  refine f_region ?_
  refine f_op rfl rfl (s_as (v := .int .i64 0) rfl) ?_
  refine f_nil ?_
  refine f_seq ?_
  refine f_seq ?_
  refine f_region ?_
  refine f_op rfl rfl (s_mv (v := .sl a0) rfl) ?_
  refine f_op rfl rfl (s_lenS rfl Tryz.underlying30 rfl) ?_
  refine f_op rfl rfl (s_lss rfl rfl) ?_
  refine f_nil ?_
  refine f_if (fun h1 => ?_) (fun h1 => ?_)
  · skip
    refine f_know 7 rfl (dec_true h1) ?_
    refine f_condT rfl ?_
    refine f_region ?_
    exact o_none
  · skip
    refine f_know 7 rfl (dec_false h1) ?_
    refine f_condF rfl ?_
    refine f_skip ?_
    refine f_seq ?_
    refine f_region ?_
    refine f_op rfl rfl (s_mv (v := .sl a0) rfl) ?_
    refine o_ck fun g2 => ?_
    refine f_op rfl rfl (s_idx Tryz.underlying30 ty3 rfl rfl g2) ?_
    refine o_bind ?_; intro x3 hx3
    refine f_op rfl rfl (s_load Tryz.underlying3 rfl rfl (ldI_eq hx3)) ?_
    refine f_op rfl rfl (s_as (v := .int .i64 x3) rfl) ?_
    refine f_nil ?_
    refine f_seq ?_
    refine f_seq ?_
    refine f_region ?_
    refine f_op rfl rfl (s_as (v := .int .i64 1) rfl) ?_
    refine f_nil ?_
    refine f_block ?_
    refine f_loop ?_
    refine f_keep [0, 3, 4] ?_
    exact s157_l0 FUEL a0 x3 1 H

/- 103 congou/shares.are -/
theorem ok103 : FnOk Tryz.prog 103 := ⟨⟨Tryz.f103, Tryz.func103, by kernel_rfl, rfl⟩⟩
theorem s103_j1 (kt0 : Sl → Sl → Int → Int → Hp → Option (Bool × Hp)) (hkt0 : ∀ (v1 : Sl) (v2 : Sl) (v3 : Int) (v4 : Int) (H : Hp), Fin Tryz.prog Tryz.f103 ret103 39 (todoAt (bodyOf Tryz.f103) [1, 0, 1, 0, 0] []) [(0, .sl v1), (5, .sl v2), (6, .int .i64 v3), (7, .int .i64 v4)] H (kt0 v1 v2 v3 v4 H)) (v1 : Sl) (v2 : Sl) (v3 : Int) (v4 : Int) (v5 : Bool) (H : Hp) : Fin Tryz.prog Tryz.f103 ret103 39 (todoAt (bodyOf Tryz.f103) [1, 0, 1, 0, 0, 1, 1, 0, 0, 1, 1] []) [(0, .sl v1), (5, .sl v2), (6, .int .i64 v3), (7, .int .i64 v4), (37, .bool v5)] H (r103_j1 kt0 v1 v2 v3 v4 v5 H) := by
  unfold r103_j1
  refine f_if (fun h1 => ?_) (fun h1 => ?_)
  · skip
    refine f_know 37 rfl (bool_T h1) ?_
    refine f_condT rfl ?_
    refine f_seq ?_
    refine f_region ?_
    refine f_op rfl rfl (s_as (v := .bool false) rfl) ?_
    refine f_nil ?_
    exact f_ret (.tmp rfl (.nil)) rfl
  · skip
    refine f_know 37 rfl (bool_F h1) ?_
    refine f_condF rfl ?_
    refine f_skip ?_
    refine f_inBlock ?_
    refine f_region ?_
    refine f_op rfl rfl (s_add rfl rfl) ?_
    refine f_op rfl rfl (s_mv (v := .int .i64 (w64 (v4 + 1))) rfl) ?_
    refine f_nil ?_
    refine f_inLoop ?_
    refine f_keep [0, 5, 6, 7] ?_
    exact hkt0 v1 v2 v3 (w64 (v4 + 1)) H

theorem s103_l0 : ∀ (k_ : Nat) (v1 : Sl) (v2 : Sl) (v3 : Int) (v4 : Int) (H : Hp), Fin Tryz.prog Tryz.f103 ret103 39 (todoAt (bodyOf Tryz.f103) [1, 0, 1, 0, 0] []) [(0, .sl v1), (5, .sl v2), (6, .int .i64 v3), (7, .int .i64 v4)] H (r103_l0 k_ v1 v2 v3 v4 H) := by
  intro k_
  induction k_ with
  | zero => intro _ _ _ _ _; exact f_none
  | succ k_ ih =>
    intro v1 v2 v3 v4 H
    rw [r103_l0]
    refine f_seq ?_
    refine f_region ?_
    refine f_op rfl rfl (s_lss rfl rfl) ?_
    refine f_nil ?_
    refine f_seq ?_
    refine f_if (fun h1 => ?_) (fun h1 => ?_)
    · skip
      refine f_know 8 rfl (dec_true h1) ?_
      refine f_condT rfl ?_
      refine f_skip ?_
      refine f_seq ?_
      refine f_block ?_
      refine f_seq ?_
      refine f_region ?_
      refine o_ck fun g2 => ?_
      refine f_op rfl rfl (s_idx Tryz.underlying122 ty30 rfl rfl g2) ?_
      refine o_bind ?_; intro x3 hx3
      refine f_op rfl rfl (s_load Tryz.underlying30 rfl rfl (ldSl_eq hx3)) ?_
      refine f_op rfl rfl (s_as (v := .sl x3) rfl) ?_
      refine f_nil ?_
      refine f_seq ?_
      refine f_region ?_
      refine f_op rfl rfl (s_mv (v := .sl x3) rfl) ?_
      refine f_op rfl rfl (s_lenS rfl Tryz.underlying30 rfl) ?_
      refine f_op rfl rfl (s_lss rfl rfl) ?_
      refine f_op rfl rfl (s_mv (v := .bool (decide ((x3.len : Int) < 1))) rfl) ?_
      refine o_if (fun h4 => ?_) (fun h4 => ?_)
      · skip
        refine o_know 14 rfl (dec_true h4) ?_
        refine f_no rfl rfl ?_
        refine f_no rfl rfl ?_
        refine f_no rfl rfl ?_
        refine f_op rfl rfl (s_pickT (v := .bool true) rfl rfl) ?_
        refine f_op rfl rfl (s_mv (v := .bool true) rfl) ?_
        refine f_no rfl rfl ?_
        refine f_no rfl rfl ?_
        refine f_no rfl rfl ?_
        refine f_no rfl rfl ?_
        refine f_no rfl rfl ?_
        refine f_no rfl rfl ?_
        refine f_no rfl rfl ?_
        refine f_op rfl rfl (s_pickT (v := .bool true) rfl rfl) ?_
        refine f_op rfl rfl (s_mv (v := .bool true) rfl) ?_
        refine f_no rfl rfl ?_
        refine f_no rfl rfl ?_
        refine f_no rfl rfl ?_
        refine f_op rfl rfl (s_pickT (v := .bool true) rfl rfl) ?_
        refine f_op rfl rfl (s_mv (v := .bool true) rfl) ?_
        refine f_no rfl rfl ?_
        refine f_no rfl rfl ?_
        refine f_no rfl rfl ?_
        refine f_op rfl rfl (s_pickT (v := .bool true) rfl rfl) ?_
        refine f_nil ?_
        refine f_keep [0, 5, 6, 7, 37] ?_
        exact s103_j1 _ (fun v1_ v2_ v3_ v4_ H_ => ih v1_ v2_ v3_ v4_ H_) v1 v2 v3 v4 true H
      · skip
        refine o_know 14 rfl (dec_false h4) ?_
        refine f_op rfl rfl (s_mv (v := .sl x3) rfl) ?_
        refine f_op rfl rfl (s_lenS rfl Tryz.underlying30 rfl) ?_
        refine f_op rfl rfl (s_gtr rfl rfl) ?_
        refine f_op rfl rfl (s_pickF (v := .bool (decide (6 < (x3.len : Int)))) rfl rfl) ?_
        refine f_op rfl rfl (s_mv (v := .bool (decide (6 < (x3.len : Int)))) rfl) ?_
        refine o_if (fun h5 => ?_) (fun h5 => ?_)
        · skip
          refine o_know 19 rfl (dec_true h5) ?_
          refine f_no rfl rfl ?_
          refine f_no rfl rfl ?_
          refine f_no rfl rfl ?_
          refine f_no rfl rfl ?_
          refine f_no rfl rfl ?_
          refine f_no rfl rfl ?_
          refine f_no rfl rfl ?_
          refine f_op rfl rfl (s_pickT (v := .bool true) rfl rfl) ?_
          refine f_op rfl rfl (s_mv (v := .bool true) rfl) ?_
          refine f_no rfl rfl ?_
          refine f_no rfl rfl ?_
          refine f_no rfl rfl ?_
          refine f_op rfl rfl (s_pickT (v := .bool true) rfl rfl) ?_
          refine f_op rfl rfl (s_mv (v := .bool true) rfl) ?_
          refine f_no rfl rfl ?_
          refine f_no rfl rfl ?_
          refine f_no rfl rfl ?_
          refine f_op rfl rfl (s_pickT (v := .bool true) rfl rfl) ?_
          refine f_nil ?_
          refine f_keep [0, 5, 6, 7, 37] ?_
          exact s103_j1 _ (fun v1_ v2_ v3_ v4_ H_ => ih v1_ v2_ v3_ v4_ H_) v1 v2 v3 v4 true H
        · skip
          refine o_know 19 rfl (dec_false h5) ?_
          refine f_op rfl rfl (s_mv (v := .sl x3) rfl) ?_
          refine f_op rfl rfl (s_lenS rfl Tryz.underlying30 rfl) ?_
          refine f_op rfl rfl (s_mv (v := .sl v1) rfl) ?_
          refine o_ck fun g6 => ?_
          refine f_op rfl rfl (s_idx Tryz.underlying122 ty30 rfl rfl g6) ?_
          refine o_bind ?_; intro x7 hx7
          refine f_op rfl rfl (s_load Tryz.underlying30 rfl rfl (ldSl_eq hx7)) ?_
          refine f_op rfl rfl (s_lenS rfl Tryz.underlying30 rfl) ?_
          refine f_op rfl rfl (s_neq rfl rfl) ?_
          refine f_op rfl rfl (s_pickF (v := .bool (decide ((x3.len : Int) ≠ (x7.len : Int)))) rfl rfl) ?_
          refine f_op rfl rfl (s_mv (v := .bool (decide ((x3.len : Int) ≠ (x7.len : Int)))) rfl) ?_
          refine o_if (fun h8 => ?_) (fun h8 => ?_)
          · skip
            refine o_know 28 rfl (dec_true h8) ?_
            refine f_no rfl rfl ?_
            refine f_no rfl rfl ?_
            refine f_no rfl rfl ?_
            refine f_op rfl rfl (s_pickT (v := .bool true) rfl rfl) ?_
            refine f_op rfl rfl (s_mv (v := .bool true) rfl) ?_
            refine f_no rfl rfl ?_
            refine f_no rfl rfl ?_
            refine f_no rfl rfl ?_
            refine f_op rfl rfl (s_pickT (v := .bool true) rfl rfl) ?_
            refine f_nil ?_
            refine f_keep [0, 5, 6, 7, 37] ?_
            exact s103_j1 _ (fun v1_ v2_ v3_ v4_ H_ => ih v1_ v2_ v3_ v4_ H_) v1 v2 v3 v4 true H
          · skip
            refine o_know 28 rfl (dec_false h8) ?_
            refine f_op rfl rfl (s_mv (v := .sl x3) rfl) ?_
            refine o_bind ?_; intro p9 hp9
            refine f_op rfl rfl (s_callF rfl ok156 (sim156 hp9)) ?_
            refine f_op rfl rfl (s_lss rfl rfl) ?_
            refine f_op rfl rfl (s_pickF (v := .bool (decide (p9.1 < 0))) rfl rfl) ?_
            refine f_op rfl rfl (s_mv (v := .bool (decide (p9.1 < 0))) rfl) ?_
            refine o_if (fun h10 => ?_) (fun h10 => ?_)
            · skip
              refine o_know 33 rfl (dec_true h10) ?_
              refine f_no rfl rfl ?_
              refine f_no rfl rfl ?_
              refine f_no rfl rfl ?_
              refine f_op rfl rfl (s_pickT (v := .bool true) rfl rfl) ?_
              refine f_nil ?_
              refine f_keep [0, 5, 6, 7, 37] ?_
              exact s103_j1 _ (fun v1_ v2_ v3_ v4_ H_ => ih v1_ v2_ v3_ v4_ H_) v1 v2 v3 v4 true p9.2
            · skip
              refine o_know 33 rfl (dec_false h10) ?_
              refine f_op rfl rfl (s_mv (v := .sl x3) rfl) ?_
              refine o_bind ?_; intro p11 hp11
              refine f_op rfl rfl (s_callF rfl ok157 (sim157 hp11)) ?_
              refine f_op rfl rfl (s_gtr rfl rfl) ?_
              refine f_op rfl rfl (s_pickF (v := .bool (decide (20 < p11.1))) rfl rfl) ?_
              refine f_nil ?_
              refine f_keep [0, 5, 6, 7, 37] ?_
              exact s103_j1 _ (fun v1_ v2_ v3_ v4_ H_ => ih v1_ v2_ v3_ v4_ H_) v1 v2 v3 v4 (decide (20 < p11.1)) p11.2
    · skip
      refine f_know 8 rfl (dec_false h1) ?_
      refine f_condF rfl ?_
      refine f_exit rfl ?_
      refine f_seq ?_
      refine f_region ?_
      refine f_op rfl rfl (s_as (v := .bool true) rfl) ?_
      refine f_nil ?_
      exact f_ret (.tmp rfl (.nil)) rfl

theorem sim103 {a0 : Sl} {H : Hp} {p : Bool × Hp} (h : r103 a0 H = some p) : CallSim Tryz.prog 103 [.sl a0] H (.bool p.1) p.2 := by
  refine callSim (fn := Tryz.f103) (ret := ret103) Tryz.func103 rfl Tryz.ntmps103 rfl ?_ h
  unfold r103
  refine f_seq ?_
  refine f_region ?_
  refine f_op rfl rfl (s_as (v := .bool false) rfl) ?_
  refine f_nil ?_
  refine f_seq ?_
  refine f_seq ?_
  refine f_region ?_
  refine f_op rfl rfl (s_mv (v := .sl a0) rfl) ?_
  refine f_op rfl rfl (s_lenS rfl Tryz.underlying122 rfl) ?_
  refine f_op rfl rfl (s_mv (v := .int .i64 0) rfl) ?_
  refine f_nil ?_
  refine f_block ?_
  refine f_loop ?_
  refine f_keep [0, 5, 6, 7] ?_
  exact s103_l0 FUEL a0 a0 (a0.len : Int) 0 H

end Go.Lt.P10
