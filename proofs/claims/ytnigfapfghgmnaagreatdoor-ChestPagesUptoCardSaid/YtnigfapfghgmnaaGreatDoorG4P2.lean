/- PRINTED BY A PROGRAM OF OURS: what each function that 'ChestPages' reaches computes on the abstract heap, and that the translated code does just that. Nothing is asked of the input. -/
import Derived.Test.YtnigfapfghgmnaaGreatDoorG4P1
set_option linter.unusedVariables false
set_option linter.unusedSimpArgs false
set_option maxRecDepth 100000
set_option maxHeartbeats 4000000
namespace Go.Lt.P10
open Go Go.Lt Go.Proofs
/- 39 (*congou/chest.state).ask -/
theorem ok39 : FnOk Tryz.prog 39 := ⟨⟨Tryz.f39, Tryz.func39, by kernel_rfl, rfl⟩⟩
theorem s39_j0 {app : App} (happ : AppSim Tryz.prog app) (v1 : ByteArray) (v2 : ByteArray) (v3 : ByteArray) (v4 : AV) (H : Hp) : Fin Tryz.prog Tryz.f39 ret39 74 (todoAt (bodyOf Tryz.f39) [1, 1, 1, 1] []) [(1, .str v1), (6, .str v2), (9, .str v3), (10, v4)] H (r39_j0 app v1 v2 v3 v4 H) := by
  unfold r39_j0
  refine f_seq ?_
  refine f_region ?_
  refine f_op rfl rfl (s_mv (v := .str v3) rfl) ?_
  refine f_op rfl rfl (s_mv (v := .str v1) rfl) ?_
  refine o_bind ?_; intro p1 hp1
  refine f_op rfl rfl (s_callF rfl ok49 (sim49 happ hp1)) ?_
  refine f_op rfl rfl (s_mv (v := .tup [.agg [.sl p1.1.1, .sl p1.1.2.1], .bool p1.1.2.2]) rfl) ?_
  refine f_op rfl rfl (s_extract (r := .agg [.sl p1.1.1, .sl p1.1.2.1]) rfl rfl) ?_
  refine f_op rfl rfl (s_extract (r := .bool p1.1.2.2) rfl rfl) ?_
  refine f_op rfl rfl (s_alloc (zs := [.sl ⟨true, 0, 0, 0, 0, 0⟩, .sl ⟨true, 0, 0, 0, 0, 0⟩]) ty84 rfl rfl) ?_
  refine o_bind ?_; intro H2 hH2
  refine f_op rfl rfl (s_stores ty84 rfl rfl rfl rfl hH2 (Nat.le_of_eq (sts_mono hH2).symm)) ?_
  refine f_op rfl rfl (s_as (v := .bool p1.1.2.2) rfl) ?_
  refine f_nil ?_
  refine f_seq ?_
  refine f_seq ?_
  refine f_region ?_
  refine f_op rfl rfl (s_mv (v := .bool p1.1.2.2) rfl) ?_
  refine f_op rfl rfl (s_not rfl) ?_
  refine f_nil ?_
  refine f_if (fun h3 => ?_) (fun h3 => ?_)
  · skip
    refine f_know 59 rfl (bool_notT h3) ?_
    refine f_condF rfl ?_
    refine f_skip ?_
    refine f_seq ?_
    refine f_region ?_
    refine f_op rfl rfl (s_mv (v := v4) rfl) ?_
    refine o_bind ?_; intro x4 hx4
    refine o_bind ?_; intro x5 hx5
    refine f_op rfl rfl (s_loads Tryz.underlying84 rfl ty84 rfl (lds_cons (ldSl_eq hx4) (lds_cons (ldSl_eq hx5) (lds_nil)))) ?_
    refine o_bind ?_; intro p6 hp6
    refine o_bind ?_; intro x7 hx7
    refine o_ck fun g8 => ?_
    refine o_bind ?_; intro x9 hx9
    refine o_bind ?_; intro x10 hx10
    refine o_bind ?_; intro x11 hx11
    refine o_bind ?_; intro x12 hx12
    refine f_op rfl rfl (s_callv happ rfl rfl hp6) ?_
    refine o_know 63 rfl (tupOf2 hx7 g8 (gete hx9 (asSl_eq hx10)) (gete hx11 (asI_eq hx12))) ?_
    refine f_op rfl rfl (s_mv (v := .tup [.sl x10, .int .i64 x12]) rfl) ?_
    refine f_op rfl rfl (s_extract (r := .sl x10) rfl rfl) ?_
    refine f_op rfl rfl (s_extract (r := .int .i64 x12) rfl rfl) ?_
    refine f_op rfl rfl (s_as (v := .sl x10) rfl) ?_
    refine f_op rfl rfl (s_as (v := .int .i64 x12) rfl) ?_
    refine f_nil ?_
    refine f_seq ?_
    refine f_seq ?_
    refine f_region ?_
    refine f_op rfl rfl (s_mv (v := .int .i64 x12) rfl) ?_
    refine f_op rfl rfl (s_neq rfl rfl) ?_
    refine f_nil ?_
    refine f_if (fun h13 => ?_) (fun h13 => ?_)
    · skip
      refine f_know 67 rfl (dec_true h13) ?_
      refine f_condT rfl ?_
      refine f_seq ?_
      refine f_region ?_
      refine f_op rfl rfl (s_mv (v := .int .i64 x12) rfl) ?_
      refine f_op rfl rfl (s_as (v := .str (ByteArray.mk #[])) rfl) ?_
      refine f_op rfl rfl (s_as (v := .int .i64 x12) rfl) ?_
      refine f_nil ?_
      exact f_ret (.tmp rfl (.tmp rfl (.nil))) rfl
    · skip
      refine f_know 67 rfl (dec_false h13) ?_
      refine f_condF rfl ?_
      refine f_skip ?_
      refine f_seq ?_
      refine f_region ?_
      refine f_op rfl rfl (s_mv (v := .str v2) rfl) ?_
      refine f_op rfl rfl (s_buildSlice (cs := [.str v2]) Tryz.underlying38 ty9 (by decide) (by decide) rfl (by decide) rfl) ?_
      refine f_op rfl rfl (s_mv (v := .sl x10) rfl) ?_
      refine o_bind ?_; intro x14 hx14
      refine o_ck fun g15 => ?_
      refine o_bind ?_; intro x16 hx16
      refine f_op rfl rfl (s_append rfl rfl Tryz.underlying38 Tryz.underlying38 ty9 (by decide) rfl (by decide) rfl rfl hx14 g15 hx16) ?_
      refine o_bind ?_; intro p17 hp17
      refine o_bind ?_; intro x18 hx18
      refine f_op rfl rfl (s_callA happ rfl hp17) ?_
      refine o_know 73 rfl (asStr_eq hx18) ?_
      refine f_op rfl rfl (s_as (v := .str x18) rfl) ?_
      refine f_op rfl rfl (s_as (v := .int .i64 0) rfl) ?_
      refine f_nil ?_
      exact f_ret (.tmp rfl (.tmp rfl (.nil))) rfl
  · skip
    refine f_know 59 rfl (bool_notF h3) ?_
    refine f_condT rfl ?_
    refine f_seq ?_
    refine f_region ?_
    refine f_op rfl rfl (s_as (v := .str (ByteArray.mk #[])) rfl) ?_
    refine f_op rfl rfl (s_as (v := .int .i64 3) rfl) ?_
    refine f_nil ?_
    exact f_ret (.tmp rfl (.tmp rfl (.nil))) rfl

theorem sim39 {app : App} (happ : AppSim Tryz.prog app) {a0b : Nat} {a0o : Nat} {a1 : ByteArray} {H : Hp} {p : (ByteArray × Int) × Hp} (h : r39 app a0b a0o a1 H = some p) : CallSim Tryz.prog 39 [.ptr a0b a0o, .str a1] H (.tup [.str p.1.1, .int .i64 p.1.2]) p.2 := by
  refine callSim (fn := Tryz.f39) (ret := ret39) Tryz.func39 rfl Tryz.ntmps39 rfl ?_ h
  unfold r39
  refine f_seq ?_
  refine f_region ?_
  refine f_op rfl rfl (s_as (v := .str (ByteArray.mk #[])) rfl) ?_
  refine f_op rfl rfl (s_as (v := .int .i64 0) rfl) ?_
  refine f_nil ?_
  refine f_seq ?_
  refine f_region ?_
  refine f_op rfl rfl (s_mv (v := .str a1) rfl) ?_
  refine o_bind ?_; intro p1 hp1
  refine f_op rfl rfl (s_callF rfl ok42 (sim42 hp1)) ?_
  refine f_op rfl rfl (s_mv (v := .tup [.str p1.1.1, .str p1.1.2.1, .bool p1.1.2.2]) rfl) ?_
  refine f_op rfl rfl (s_extract (r := .str p1.1.1) rfl rfl) ?_
  refine f_op rfl rfl (s_extract (r := .str p1.1.2.1) rfl rfl) ?_
  refine f_op rfl rfl (s_extract (r := .bool p1.1.2.2) rfl rfl) ?_
  refine f_op rfl rfl (s_as (v := .str p1.1.1) rfl) ?_
  refine f_op rfl rfl (s_as (v := .str p1.1.2.1) rfl) ?_
  refine f_op rfl rfl (s_as (v := .bool p1.1.2.2) rfl) ?_
  refine f_nil ?_
  refine f_seq ?_
  refine f_region ?_
  refine f_op rfl rfl (s_mv (v := .ptr a0b a0o) rfl) ?_
  refine f_op rfl rfl (s_makeFunc rfl rfl) ?_
  refine f_op rfl rfl (s_as (v := .str (ByteArray.mk #[])) rfl) ?_
  refine f_op rfl rfl (s_as (v := .fn 60 [.ptr a0b a0o] []) rfl) ?_
  refine f_nil ?_
  refine f_seq ?_
  refine f_seq ?_
  refine f_region ?_
  refine f_op rfl rfl (s_mv (v := .str p1.1.1) rfl) ?_
  refine f_nil ?_
  refine f_block ?_
  refine f_seq ?_
  refine f_region ?_
  refine f_op rfl rfl (s_eqStr rfl rfl) ?_
  refine f_op rfl rfl (s_as (v := .bool (strEq p1.1.1 (ByteArray.mk #[103, 97, 112]))) rfl) ?_
  refine f_nil ?_
  refine f_if (fun h2 => ?_) (fun h2 => ?_)
  · skip
    refine f_know 24 rfl (bool_T h2) ?_
    refine f_condT rfl ?_
    refine f_skip ?_
    refine f_inBlock ?_
    refine f_keep [1, 6, 9, 10] ?_
    exact s39_j0 happ a1 p1.1.1 (ByteArray.mk #[]) (.fn 60 [.ptr a0b a0o] []) p1.2
  · skip
    refine f_know 24 rfl (bool_F h2) ?_
    refine f_condF rfl ?_
    refine f_seq ?_
    refine f_region ?_
    refine f_op rfl rfl (s_eqStr rfl rfl) ?_
    refine f_op rfl rfl (s_as (v := .bool (strEq p1.1.1 (ByteArray.mk #[104, 101, 97, 118, 121]))) rfl) ?_
    refine f_nil ?_
    refine f_if (fun h3 => ?_) (fun h3 => ?_)
    · skip
      refine f_know 26 rfl (bool_T h3) ?_
      refine f_condT rfl ?_
      refine f_region ?_
      refine f_op rfl rfl (s_mv (v := .ptr a0b a0o) rfl) ?_
      refine f_op rfl rfl (s_makeFunc rfl rfl) ?_
      refine f_op rfl rfl (s_as (v := .str (ByteArray.mk #[100])) rfl) ?_
      refine f_op rfl rfl (s_as (v := .fn 61 [.ptr a0b a0o] []) rfl) ?_
      refine f_nil ?_
      refine f_inBlock ?_
      refine f_keep [1, 6, 9, 10] ?_
      exact s39_j0 happ a1 p1.1.1 (ByteArray.mk #[100]) (.fn 61 [.ptr a0b a0o] []) p1.2
    · skip
      refine f_know 26 rfl (bool_F h3) ?_
      refine f_condF rfl ?_
      refine f_seq ?_
      refine f_region ?_
      refine f_op rfl rfl (s_eqStr rfl rfl) ?_
      refine f_op rfl rfl (s_as (v := .bool (strEq p1.1.1 (ByteArray.mk #[111, 102, 116, 101, 110]))) rfl) ?_
      refine f_nil ?_
      refine f_if (fun h4 => ?_) (fun h4 => ?_)
      · skip
        refine f_know 30 rfl (bool_T h4) ?_
        refine f_condT rfl ?_
        refine f_region ?_
        refine f_op rfl rfl (s_mv (v := .ptr a0b a0o) rfl) ?_
        refine f_op rfl rfl (s_makeFunc rfl rfl) ?_
        refine f_op rfl rfl (s_as (v := .str (ByteArray.mk #[110])) rfl) ?_
        refine f_op rfl rfl (s_as (v := .fn 62 [.ptr a0b a0o] []) rfl) ?_
        refine f_nil ?_
        refine f_inBlock ?_
        refine f_keep [1, 6, 9, 10] ?_
        exact s39_j0 happ a1 p1.1.1 (ByteArray.mk #[110]) (.fn 62 [.ptr a0b a0o] []) p1.2
      · skip
        refine f_know 30 rfl (bool_F h4) ?_
        refine f_condF rfl ?_
        refine f_seq ?_
        refine f_region ?_
        refine f_op rfl rfl (s_eqStr rfl rfl) ?_
        refine f_op rfl rfl (s_as (v := .bool (strEq p1.1.1 (ByteArray.mk #[116, 97, 105, 108]))) rfl) ?_
        refine f_nil ?_
        refine f_if (fun h5 => ?_) (fun h5 => ?_)
        · skip
          refine f_know 34 rfl (bool_T h5) ?_
          refine f_condT rfl ?_
          refine f_region ?_
          refine f_op rfl rfl (s_mv (v := .ptr a0b a0o) rfl) ?_
          refine f_op rfl rfl (s_makeFunc rfl rfl) ?_
          refine f_op rfl rfl (s_as (v := .fn 63 [.ptr a0b a0o] []) rfl) ?_
          refine f_nil ?_
          refine f_inBlock ?_
          refine f_keep [1, 6, 9, 10] ?_
          exact s39_j0 happ a1 p1.1.1 (ByteArray.mk #[]) (.fn 63 [.ptr a0b a0o] []) p1.2
        · skip
          refine f_know 34 rfl (bool_F h5) ?_
          refine f_condF rfl ?_
          refine f_seq ?_
          refine f_region ?_
          refine f_op rfl rfl (s_eqStr rfl rfl) ?_
          refine f_op rfl rfl (s_as (v := .bool (strEq p1.1.1 (ByteArray.mk #[102, 97, 105, 114]))) rfl) ?_
          refine f_nil ?_
          refine f_if (fun h6 => ?_) (fun h6 => ?_)
          · skip
            refine f_know 38 rfl (bool_T h6) ?_
            refine f_condT rfl ?_
            refine f_region ?_
            refine f_op rfl rfl (s_mv (v := .ptr a0b a0o) rfl) ?_
            refine f_op rfl rfl (s_makeFunc rfl rfl) ?_
            refine f_op rfl rfl (s_as (v := .str (ByteArray.mk #[100, 100])) rfl) ?_
            refine f_op rfl rfl (s_as (v := .fn 64 [.ptr a0b a0o] []) rfl) ?_
            refine f_nil ?_
            refine f_inBlock ?_
            refine f_keep [1, 6, 9, 10] ?_
            exact s39_j0 happ a1 p1.1.1 (ByteArray.mk #[100, 100]) (.fn 64 [.ptr a0b a0o] []) p1.2
          · skip
            refine f_know 38 rfl (bool_F h6) ?_
            refine f_condF rfl ?_
            refine f_seq ?_
            refine f_region ?_
            refine f_op rfl rfl (s_eqStr rfl rfl) ?_
            refine f_op rfl rfl (s_as (v := .bool (strEq p1.1.1 (ByteArray.mk #[114, 111, 117, 110, 100]))) rfl) ?_
            refine f_nil ?_
            refine f_if (fun h7 => ?_) (fun h7 => ?_)
            · skip
              refine f_know 42 rfl (bool_T h7) ?_
              refine f_condT rfl ?_
              refine f_region ?_
              refine f_op rfl rfl (s_as (v := .str (ByteArray.mk #[100])) rfl) ?_
              refine f_op rfl rfl (s_as (v := .fn 65 [] []) rfl) ?_
              refine f_nil ?_
              refine f_inBlock ?_
              refine f_keep [1, 6, 9, 10] ?_
              exact s39_j0 happ a1 p1.1.1 (ByteArray.mk #[100]) (.fn 65 [] []) p1.2
            · skip
              refine f_know 42 rfl (bool_F h7) ?_
              refine f_condF rfl ?_
              refine f_seq ?_
              refine f_region ?_
              refine f_op rfl rfl (s_eqStr rfl rfl) ?_
              refine f_op rfl rfl (s_as (v := .bool (strEq p1.1.1 (ByteArray.mk #[99, 117, 114, 118, 101]))) rfl) ?_
              refine f_nil ?_
              refine f_if (fun h8 => ?_) (fun h8 => ?_)
              · skip
                refine f_know 44 rfl (bool_T h8) ?_
                refine f_condT rfl ?_
                refine f_region ?_
                refine f_op rfl rfl (s_as (v := .str (ByteArray.mk #[100])) rfl) ?_
                refine f_op rfl rfl (s_as (v := .fn 66 [] []) rfl) ?_
                refine f_nil ?_
                refine f_inBlock ?_
                refine f_keep [1, 6, 9, 10] ?_
                exact s39_j0 happ a1 p1.1.1 (ByteArray.mk #[100]) (.fn 66 [] []) p1.2
              · skip
                refine f_know 44 rfl (bool_F h8) ?_
                refine f_condF rfl ?_
                refine f_seq ?_
                refine f_region ?_
                refine f_op rfl rfl (s_eqStr rfl rfl) ?_
                refine f_op rfl rfl (s_as (v := .bool (strEq p1.1.1 (ByteArray.mk #[115, 113, 117, 97, 114, 101]))) rfl) ?_
                refine f_nil ?_
                refine f_if (fun h9 => ?_) (fun h9 => ?_)
                · skip
                  refine f_know 46 rfl (bool_T h9) ?_
                  refine f_condT rfl ?_
                  refine f_region ?_
                  refine f_op rfl rfl (s_as (v := .str (ByteArray.mk #[100, 100, 100, 100])) rfl) ?_
                  refine f_op rfl rfl (s_as (v := .fn 67 [] []) rfl) ?_
                  refine f_nil ?_
                  refine f_inBlock ?_
                  refine f_keep [1, 6, 9, 10] ?_
                  exact s39_j0 happ a1 p1.1.1 (ByteArray.mk #[100, 100, 100, 100]) (.fn 67 [] []) p1.2
                · skip
                  refine f_know 46 rfl (bool_F h9) ?_
                  refine f_condF rfl ?_
                  refine f_seq ?_
                  refine f_region ?_
                  refine f_op rfl rfl (s_eqStr rfl rfl) ?_
                  refine f_op rfl rfl (s_as (v := .bool (strEq p1.1.1 (ByteArray.mk #[114, 111, 119]))) rfl) ?_
                  refine f_nil ?_
                  refine f_if (fun h10 => ?_) (fun h10 => ?_)
                  · skip
                    refine f_know 48 rfl (bool_T h10) ?_
                    refine f_condT rfl ?_
                    refine f_region ?_
                    refine f_op rfl rfl (s_as (v := .str (ByteArray.mk #[100, 100])) rfl) ?_
                    refine f_op rfl rfl (s_as (v := .fn 68 [] []) rfl) ?_
                    refine f_nil ?_
                    refine f_inBlock ?_
                    refine f_keep [1, 6, 9, 10] ?_
                    exact s39_j0 happ a1 p1.1.1 (ByteArray.mk #[100, 100]) (.fn 68 [] []) p1.2
                  · skip
                    refine f_know 48 rfl (bool_F h10) ?_
                    refine f_condF rfl ?_
                    refine f_seq ?_
                    refine f_region ?_
                    refine f_op rfl rfl (s_eqStr rfl rfl) ?_
                    refine f_op rfl rfl (s_as (v := .bool (strEq p1.1.1 (ByteArray.mk #[108, 101, 97, 115, 116]))) rfl) ?_
                    refine f_nil ?_
                    refine f_if (fun h11 => ?_) (fun h11 => ?_)
                    · skip
                      refine f_know 50 rfl (bool_T h11) ?_
                      refine f_condT rfl ?_
                      refine f_region ?_
                      refine f_op rfl rfl (s_as (v := .str (ByteArray.mk #[100])) rfl) ?_
                      refine f_op rfl rfl (s_as (v := .fn 69 [] []) rfl) ?_
                      refine f_nil ?_
                      refine f_inBlock ?_
                      refine f_keep [1, 6, 9, 10] ?_
                      exact s39_j0 happ a1 p1.1.1 (ByteArray.mk #[100]) (.fn 69 [] []) p1.2
                    · skip
                      refine f_know 50 rfl (bool_F h11) ?_
                      refine f_condF rfl ?_
                      refine f_seq ?_
                      refine f_region ?_
                      refine f_op rfl rfl (s_as (v := .str (ByteArray.mk #[])) rfl) ?_
                      refine f_op rfl rfl (s_as (v := .int .i64 3) rfl) ?_
                      refine f_nil ?_
                      exact f_ret (.tmp rfl (.tmp rfl (.nil))) rfl

/- 27 (*congou/chest.Chest).Ask -/
theorem ok27 : FnOk Tryz.prog 27 := ⟨⟨Tryz.f27, Tryz.func27, by kernel_rfl, rfl⟩⟩
theorem sim27 {app : App} (happ : AppSim Tryz.prog app) {a0b : Nat} {a0o : Nat} {a1 : ByteArray} {H : Hp} {p : (ByteArray × Int) × Hp} (h : r27 app a0b a0o a1 H = some p) : CallSim Tryz.prog 27 [.ptr a0b a0o, .str a1] H (.tup [.str p.1.1, .int .i64 p.1.2]) p.2 := by
  refine callSim (fn := Tryz.f27) (ret := ret27) Tryz.func27 rfl Tryz.ntmps27 rfl ?_ h
  unfold r27
  refine f_seq ?_
  refine f_region ?_
  refine f_op rfl rfl (s_as (v := .str (ByteArray.mk #[])) rfl) ?_
  refine f_op rfl rfl (s_as (v := .int .i64 0) rfl) ?_
  refine f_nil ?_
  refine f_seq ?_
  refine f_seq ?_
  refine f_region ?_
  refine f_op rfl rfl (s_mv (v := .ptr a0b a0o) rfl) ?_
  refine o_bind ?_; intro p1 hp1
  refine f_op rfl rfl (s_callF rfl ok28 (sim28 hp1)) ?_
  refine f_nil ?_
  refine f_if (fun h2 => ?_) (fun h2 => ?_)
  · skip
    refine f_know 7 rfl (bool_T h2) ?_
    refine f_condT rfl ?_
    refine f_seq ?_
    refine f_region ?_
    refine f_op rfl rfl (s_as (v := .str (ByteArray.mk #[])) rfl) ?_
    refine f_op rfl rfl (s_as (v := .int .i64 1) rfl) ?_
    refine f_nil ?_
    exact f_ret (.tmp rfl (.tmp rfl (.nil))) rfl
  · skip
    refine f_know 7 rfl (bool_F h2) ?_
    refine f_condF rfl ?_
    refine f_skip ?_
    refine f_seq ?_
    refine f_region ?_
    refine f_op rfl rfl (s_mv (v := .ptr a0b a0o) rfl) ?_
    refine o_bind ?_; intro p3 hp3
    refine f_op rfl rfl (s_callF rfl ok33 (sim33 hp3)) ?_
    refine f_op rfl rfl (s_mv (v := .str a1) rfl) ?_
    refine o_bind ?_; intro p4 hp4
    refine f_op rfl rfl (s_callF rfl ok39 (sim39 happ hp4)) ?_
    refine f_op rfl rfl (s_extract (r := .str p4.1.1) rfl rfl) ?_
    refine f_op rfl rfl (s_extract (r := .int .i64 p4.1.2) rfl rfl) ?_
    refine f_op rfl rfl (s_as (v := .str p4.1.1) rfl) ?_
    refine f_op rfl rfl (s_as (v := .int .i64 p4.1.2) rfl) ?_
    refine f_nil ?_
    exact f_ret (.tmp rfl (.tmp rfl (.nil))) rfl

/- 13 congou/congoulaw10.awake -/
theorem ok13 : FnOk Tryz.prog 13 := ⟨⟨Tryz.f13, Tryz.func13, by kernel_rfl, rfl⟩⟩
theorem sim13 {app : App} (happ : AppSim Tryz.prog app) {H : Hp} {p : Bool × Hp} (h : r13 app H = some p) : CallSim Tryz.prog 13 [] H (.bool p.1) p.2 := by
  refine callSim (fn := Tryz.f13) (ret := ret13) Tryz.func13 rfl Tryz.ntmps13 rfl ?_ h
  unfold r13
  refine f_seq ?_
  refine f_region ?_
  refine f_op rfl rfl (s_as (v := .bool false) rfl) ?_
  refine f_nil ?_
  refine f_seq ?_
  refine f_region ?_
  refine o_bind ?_; intro p1 hp1
  refine f_op rfl rfl (s_callF rfl ok14 (sim14 hp1)) ?_
  refine f_op rfl rfl (s_as (v := .ptr p1.1.1 p1.1.2) rfl) ?_
  refine f_nil ?_
  refine f_seq ?_
  refine f_region ?_
  refine f_op rfl rfl (s_mv (v := .ptr p1.1.1 p1.1.2) rfl) ?_
  refine o_bind ?_; intro p2 hp2
  refine f_op rfl rfl (s_callF rfl ok18 (sim18 happ hp2)) ?_
  refine f_op rfl rfl (s_mv (v := .tup [.str p2.1.1, .int .i64 p2.1.2]) rfl) ?_
  refine f_op rfl rfl (s_extract (r := .str p2.1.1) rfl rfl) ?_
  refine f_op rfl rfl (s_extract (r := .int .i64 p2.1.2) rfl rfl) ?_
  refine f_op rfl rfl (s_as (v := .str p2.1.1) rfl) ?_
  refine f_op rfl rfl (s_as (v := .int .i64 p2.1.2) rfl) ?_
  refine f_nil ?_
  refine f_seq ?_
  refine f_region ?_
  refine f_op rfl rfl (s_mv (v := .ptr p1.1.1 p1.1.2) rfl) ?_
  refine o_bind ?_; intro p3 hp3
  refine f_op rfl rfl (s_callF rfl ok27 (sim27 happ hp3)) ?_
  refine f_op rfl rfl (s_mv (v := .tup [.str p3.1.1, .int .i64 p3.1.2]) rfl) ?_
  refine f_op rfl rfl (s_extract (r := .str p3.1.1) rfl rfl) ?_
  refine f_op rfl rfl (s_extract (r := .int .i64 p3.1.2) rfl rfl) ?_
  refine f_op rfl rfl (s_as (v := .str p3.1.1) rfl) ?_
  refine f_op rfl rfl (s_as (v := .int .i64 p3.1.2) rfl) ?_
  refine f_nil ?_
  refine f_seq ?_
  refine f_region ?_
  refine f_op rfl rfl (s_mv (v := .int .i64 p2.1.2) rfl) ?_
  refine f_op rfl rfl (s_eql rfl rfl) ?_
  refine f_op rfl rfl (s_mv (v := .bool (decide (p2.1.2 = 0))) rfl) ?_
  refine o_if (fun h4 => ?_) (fun h4 => ?_)
  · skip
    refine o_know 19 rfl (dec_true h4) ?_
    refine f_op rfl rfl (s_mv (v := .int .i64 p3.1.2) rfl) ?_
    refine f_op rfl rfl (s_eql rfl rfl) ?_
    refine f_op rfl rfl (s_pickT (v := .bool (decide (p3.1.2 = 0))) rfl rfl) ?_
    refine f_op rfl rfl (s_mv (v := .bool (decide (p3.1.2 = 0))) rfl) ?_
    refine o_if (fun h5 => ?_) (fun h5 => ?_)
    · skip
      refine o_know 23 rfl (dec_true h5) ?_
      refine f_op rfl rfl (s_mv (v := .str p2.1.1) rfl) ?_
      refine f_op rfl rfl (s_eqStr rfl rfl) ?_
      refine f_op rfl rfl (s_pickT (v := .bool (strEq p2.1.1 (ByteArray.mk #[108, 101, 97, 102]))) rfl rfl) ?_
      refine f_op rfl rfl (s_mv (v := .bool (strEq p2.1.1 (ByteArray.mk #[108, 101, 97, 102]))) rfl) ?_
      refine o_if (fun h6 => ?_) (fun h6 => ?_)
      · skip
        refine o_know 27 rfl (bool_T h6) ?_
        refine f_op rfl rfl (s_mv (v := .str p3.1.1) rfl) ?_
        refine f_op rfl rfl (s_eqStr rfl rfl) ?_
        refine f_op rfl rfl (s_pickT (v := .bool (strEq p3.1.1 (ByteArray.mk #[103, 97, 112, 32, 48]))) rfl rfl) ?_
        refine f_op rfl rfl (s_mv (v := .bool (strEq p3.1.1 (ByteArray.mk #[103, 97, 112, 32, 48]))) rfl) ?_
        refine o_if (fun h7 => ?_) (fun h7 => ?_)
        · skip
          refine o_know 31 rfl (bool_T h7) ?_
          refine f_op rfl rfl (s_mv (v := .ptr p1.1.1 p1.1.2) rfl) ?_
          refine o_bind ?_; intro p8 hp8
          refine f_op rfl rfl (s_callF rfl ok15 (sim15 hp8)) ?_
          refine f_op rfl rfl (s_eql rfl rfl) ?_
          refine f_op rfl rfl (s_pickT (v := .bool (decide (p8.1 = 1))) rfl rfl) ?_
          refine f_op rfl rfl (s_as (v := .bool (decide (p8.1 = 1))) rfl) ?_
          refine f_nil ?_
          exact f_ret (.tmp rfl (.nil)) rfl
        · skip
          refine o_know 31 rfl (bool_F h7) ?_
          refine f_no rfl rfl ?_
          refine f_no rfl rfl ?_
          refine f_no rfl rfl ?_
          refine f_op rfl rfl (s_pickF (v := .bool false) rfl rfl) ?_
          refine f_op rfl rfl (s_as (v := .bool false) rfl) ?_
          refine f_nil ?_
          exact f_ret (.tmp rfl (.nil)) rfl
      · skip
        refine o_know 27 rfl (bool_F h6) ?_
        refine f_no rfl rfl ?_
        refine f_no rfl rfl ?_
        refine f_op rfl rfl (s_pickF (v := .bool false) rfl rfl) ?_
        refine f_op rfl rfl (s_mv (v := .bool false) rfl) ?_
        refine f_no rfl rfl ?_
        refine f_no rfl rfl ?_
        refine f_no rfl rfl ?_
        refine f_op rfl rfl (s_pickF (v := .bool false) rfl rfl) ?_
        refine f_op rfl rfl (s_as (v := .bool false) rfl) ?_
        refine f_nil ?_
        exact f_ret (.tmp rfl (.nil)) rfl
    · skip
      refine o_know 23 rfl (dec_false h5) ?_
      refine f_no rfl rfl ?_
      refine f_no rfl rfl ?_
      refine f_op rfl rfl (s_pickF (v := .bool false) rfl rfl) ?_
      refine f_op rfl rfl (s_mv (v := .bool false) rfl) ?_
      refine f_no rfl rfl ?_
      refine f_no rfl rfl ?_
      refine f_op rfl rfl (s_pickF (v := .bool false) rfl rfl) ?_
      refine f_op rfl rfl (s_mv (v := .bool false) rfl) ?_
      refine f_no rfl rfl ?_
      refine f_no rfl rfl ?_
      refine f_no rfl rfl ?_
      refine f_op rfl rfl (s_pickF (v := .bool false) rfl rfl) ?_
      refine f_op rfl rfl (s_as (v := .bool false) rfl) ?_
      refine f_nil ?_
      exact f_ret (.tmp rfl (.nil)) rfl
  · skip
    refine o_know 19 rfl (dec_false h4) ?_
    refine f_no rfl rfl ?_
    refine f_no rfl rfl ?_
    refine f_op rfl rfl (s_pickF (v := .bool false) rfl rfl) ?_
    refine f_op rfl rfl (s_mv (v := .bool false) rfl) ?_
    refine f_no rfl rfl ?_
    refine f_no rfl rfl ?_
    refine f_op rfl rfl (s_pickF (v := .bool false) rfl rfl) ?_
    refine f_op rfl rfl (s_mv (v := .bool false) rfl) ?_
    refine f_no rfl rfl ?_
    refine f_no rfl rfl ?_
    refine f_op rfl rfl (s_pickF (v := .bool false) rfl rfl) ?_
    refine f_op rfl rfl (s_mv (v := .bool false) rfl) ?_
    refine f_no rfl rfl ?_
    refine f_no rfl rfl ?_
    refine f_no rfl rfl ?_
    refine f_op rfl rfl (s_pickF (v := .bool false) rfl rfl) ?_
    refine f_op rfl rfl (s_as (v := .bool false) rfl) ?_
    refine f_nil ?_
    exact f_ret (.tmp rfl (.nil)) rfl

/- 31 slices.Reverse[[]int,int] -/
theorem ok31 : FnOk Tryz.prog 31 := ⟨⟨Tryz.f31, Tryz.func31, by kernel_rfl, rfl⟩⟩
theorem s31_l0 : ∀ (k_ : Nat) (v1 : Sl) (v2 : Int) (v3 : Int) (H : Hp), Fin Tryz.prog Tryz.f31 ret31 28 (todoAt (bodyOf Tryz.f31) [1, 0, 0] []) [(0, .sl v1), (2, .int .i64 v2), (3, .int .i64 v3)] H (r31_l0 k_ v1 v2 v3 H) := by
  intro k_
  induction k_ with
  | zero => intro _ _ _ _; exact f_none
  | succ k_ ih =>
    intro v1 v2 v3 H
    rw [r31_l0]
    refine f_seq ?_
    refine f_seq ?_
    refine f_region ?_
    refine f_op rfl rfl (s_mv (v := .int .i64 v2) rfl) ?_
    refine f_op rfl rfl (s_mv (v := .int .i64 v3) rfl) ?_
    refine f_op rfl rfl (s_lss rfl rfl) ?_
    refine f_nil ?_
    refine f_if (fun h1 => ?_) (fun h1 => ?_)
    · skip
      refine f_know 9 rfl (dec_true h1) ?_
      refine f_condT rfl ?_
      refine f_skip ?_
      refine f_seq ?_
      refine f_block ?_
      refine f_ck fun g2 => ?_
      refine f_bind ?_; intro x3 hx3
      refine f_ck fun g4 => ?_
      refine f_bind ?_; intro x5 hx5
      refine f_ck fun g6 => ?_
      refine f_bind ?_; intro H7 hH7
      refine f_ck fun g8 => ?_
      refine f_bind ?_; intro H9 hH9
      refine f_draw (Φ := fun _ => True) (lim := 1000000) [0, 0, 0, 0, 0, 0, 0, 1, 0, 0, 0, 1, 0, 2, 0, 2] (Trc.pure rfl rfl rfl (.inl fun _ => s_mv (v := .sl v1) rfl) (Trc.pure rfl rfl rfl (.inl fun _ => s_mv (v := .int .i64 v2) rfl) (Trc.pure rfl rfl rfl (.inl fun _ => s_mv (v := .sl v1) rfl) (Trc.pure rfl rfl rfl (.inl fun _ => s_mv (v := .int .i64 v3) rfl) (Trc.pure rfl rfl rfl (.inl fun _ => s_mv (v := .sl v1) rfl) (Trc.pure rfl rfl rfl (.inl fun _ => s_mv (v := .int .i64 v3) rfl) (Trc.pure rfl rfl rfl (.inl fun _ => s_idx Tryz.underlying30 ty3 rfl rfl g2) (Trc.read rfl rfl rfl (s_load Tryz.underlying3 rfl rfl (ldI_eq hx3)) (Trc.pure rfl rfl rfl (.inl fun _ => s_mv (v := .sl v1) rfl) (Trc.pure rfl rfl rfl (.inl fun _ => s_mv (v := .int .i64 v2) rfl) (Trc.pure rfl rfl rfl (.inl fun _ => s_idx Tryz.underlying30 ty3 rfl rfl g4) (Trc.read rfl rfl rfl (s_load Tryz.underlying3 rfl rfl (ldI_eq hx5)) (Trc.pure rfl rfl rfl (.inl fun _ => s_idx Tryz.underlying30 ty3 rfl rfl g6) (Trc.eff rfl rfl rfl (fun _ => trivial) (s_store (s := 1) ty3 rfl rfl rfl hH7) (Trc.pure rfl rfl rfl (.inl fun _ => s_idx Tryz.underlying30 ty3 rfl rfl g8) (Trc.eff rfl rfl rfl (fun _ => trivial) (s_store (s := 1) ty3 rfl rfl rfl hH9) (Trc.nil (fun _ => trivial)))))))))))))))))) rfl (by decide +kernel) mixed ?_
      refine f_inBlock ?_
      refine f_region ?_
      refine f_op rfl rfl (s_mv (v := .int .i64 v2) rfl) ?_
      refine f_op rfl rfl (s_add rfl rfl) ?_
      refine f_op rfl rfl (s_mv (v := .int .i64 v3) rfl) ?_
      refine f_op rfl rfl (s_sub rfl rfl) ?_
      refine f_op rfl rfl (s_as (v := .int .i64 (w64 (v2 + 1))) rfl) ?_
      refine f_op rfl rfl (s_as (v := .int .i64 (w64 (v3 - 1))) rfl) ?_
      refine f_nil ?_
      refine f_inLoop ?_
      refine f_keep [0, 2, 3] ?_
      exact ih v1 (w64 (v2 + 1)) (w64 (v3 - 1)) H9
    · skip
      refine f_know 9 rfl (dec_false h1) ?_
      refine f_condF rfl ?_
      refine f_exit rfl ?_
      exact f_end (.nil) rfl

theorem sim31 {a0 : Sl} {H : Hp} {p : Unit × Hp} (h : r31 a0 H = some p) : CallSim Tryz.prog 31 [.sl a0] H (.tup []) p.2 := by
  refine callSim (fn := Tryz.f31) (ret := ret31) Tryz.func31 rfl Tryz.ntmps31 rfl ?_ h
  unfold r31
  refine f_seq ?_
  refine f_region ?_
  refine f_op rfl rfl (s_mv (v := .sl a0) rfl) ?_
  refine f_op rfl rfl (s_lenS rfl Tryz.underlying30 rfl) ?_
  refine f_op rfl rfl (s_sub rfl rfl) ?_
  refine f_op rfl rfl (s_as (v := .int .i64 0) rfl) ?_
  refine f_op rfl rfl (s_as (v := .int .i64 (w64 ((a0.len : Int) - 1))) rfl) ?_
  refine f_nil ?_
  refine f_block ?_
  refine f_loop ?_
  refine f_keep [0, 2, 3] ?_
  exact s31_l0 FUEL a0 0 (w64 ((a0.len : Int) - 1)) H

/- 32 (*congou/chest.Chest).way -/
theorem ok32 : FnOk Tryz.prog 32 := ⟨⟨Tryz.f32, Tryz.func32, by kernel_rfl, rfl⟩⟩
theorem s32_l0 : ∀ (k_ : Nat) (v1 : Nat) (v2 : Nat) (v3 : Sl) (v4 : Int) (H : Hp), Fin Tryz.prog Tryz.f32 ret32 25 (todoAt (bodyOf Tryz.f32) [1, 1, 0, 1, 0, 0] []) [(0, .ptr v1 v2), (5, .sl v3), (6, .int .i64 v4)] H (r32_l0 k_ v1 v2 v3 v4 H) := by
  intro k_
  induction k_ with
  | zero => intro _ _ _ _ _; exact f_none
  | succ k_ ih =>
    intro v1 v2 v3 v4 H
    rw [r32_l0]
    refine f_seq ?_
    refine f_seq ?_
    refine f_region ?_
    refine f_op rfl rfl (s_mv (v := .int .i64 v4) rfl) ?_
    refine f_op rfl rfl (s_neq rfl rfl) ?_
    refine f_nil ?_
    refine f_if (fun h1 => ?_) (fun h1 => ?_)
    · skip
      refine f_know 9 rfl (dec_true h1) ?_
      refine f_condT rfl ?_
      refine f_skip ?_
      refine f_seq ?_
      refine f_block ?_
      refine f_region ?_
      refine f_op rfl rfl (s_mv (v := .sl v3) rfl) ?_
      refine f_op rfl rfl (s_mv (v := .int .i64 v4) rfl) ?_
      refine f_op rfl rfl (s_buildSlice (cs := [.int .i64 v4]) Tryz.underlying30 ty3 (by decide) (by decide) rfl (by decide) rfl) ?_
      refine o_bind ?_; intro x2 hx2
      refine f_op rfl rfl (s_ap rfl rfl Tryz.underlying30 Tryz.underlying30 ty3 rfl rfl rfl rfl rfl rfl rfl hx2) ?_
      refine f_op rfl rfl (s_as (v := .sl x2.1) rfl) ?_
      refine f_nil ?_
      refine f_inBlock ?_
      refine f_region ?_
      refine f_op rfl rfl (s_mv (v := .ptr v1 v2) rfl) ?_
      refine f_op rfl rfl (s_nilCheck rfl) ?_
      refine f_op rfl rfl (s_fieldAddr Tryz.underlying56 rfl ty54 rfl) ?_
      refine o_bind ?_; intro x3 hx3
      refine f_op rfl rfl (s_load Tryz.underlying54 rfl rfl (ldSl_eq hx3)) ?_
      refine f_op rfl rfl (s_mv (v := .int .i64 v4) rfl) ?_
      refine o_ck fun g4 => ?_
      refine f_op rfl rfl (s_idx Tryz.underlying54 ty71 rfl rfl g4) ?_
      refine f_op rfl rfl (s_fieldAddr Tryz.underlying71 rfl ty3 rfl) ?_
      refine o_bind ?_; intro x5 hx5
      refine f_op rfl rfl (s_load Tryz.underlying3 rfl rfl (ldI_eq hx5)) ?_
      refine f_op rfl rfl (s_as (v := .int .i64 x5) rfl) ?_
      refine f_nil ?_
      refine f_inLoop ?_
      refine f_keep [0, 5, 6] ?_
      exact ih v1 v2 x2.1 x5 x2.2
    · skip
      refine f_know 9 rfl (dec_false h1) ?_
      refine f_condF rfl ?_
      refine f_exit rfl ?_
      refine f_seq ?_
      refine f_region ?_
      refine f_op rfl rfl (s_mv (v := .sl v3) rfl) ?_
      refine o_bind ?_; intro p6 hp6
      refine f_op rfl rfl (s_callF rfl ok31 (sim31 hp6)) ?_
      refine f_nil ?_
      refine f_seq ?_
      refine f_region ?_
      refine f_op rfl rfl (s_mv (v := .sl v3) rfl) ?_
      refine f_op rfl rfl (s_as (v := .sl v3) rfl) ?_
      refine f_nil ?_
      exact f_ret (.tmp rfl (.nil)) rfl

theorem sim32 {a0b : Nat} {a0o : Nat} {a1 : Int} {H : Hp} {p : Sl × Hp} (h : r32 a0b a0o a1 H = some p) : CallSim Tryz.prog 32 [.ptr a0b a0o, .int .i64 a1] H (.sl p.1) p.2 := by
  refine callSim (fn := Tryz.f32) (ret := ret32) Tryz.func32 rfl Tryz.ntmps32 rfl ?_ h
  unfold r32
  refine f_seq ?_
  refine f_region ?_
  refine f_op rfl rfl (s_as (v := .sl ⟨true, 0, 0, 0, 0, 0⟩) rfl) ?_
  refine f_nil ?_
  refine f_seq ?_
  refine f_region ?_
  refine f_op rfl rfl (s_as (v := .sl ⟨true, 0, 0, 0, 0, 0⟩) rfl) ?_
  refine f_nil ?_
  refine f_seq ?_
  refine f_seq ?_
  refine f_region ?_
  refine f_op rfl rfl (s_mv (v := .int .i64 a1) rfl) ?_
  refine f_op rfl rfl (s_as (v := .int .i64 a1) rfl) ?_
  refine f_nil ?_
  refine f_block ?_
  refine f_loop ?_
  refine f_keep [0, 5, 6] ?_
  exact s32_l0 FUEL a0b a0o ⟨true, 0, 0, 0, 0, 0⟩ a1 H

/- 16 (*congou/chest.Chest).Path -/
theorem ok16 : FnOk Tryz.prog 16 := ⟨⟨Tryz.f16, Tryz.func16, by kernel_rfl, rfl⟩⟩
theorem s16_l0 : ∀ (k_ : Nat) (v1 : Nat) (v2 : Nat) (v3 : Sl) (v4 : Sl) (v5 : Int) (v6 : Int) (H : Hp), Fin Tryz.prog Tryz.f16 ret16 32 (todoAt (bodyOf Tryz.f16) [1, 1, 1, 0, 1, 0, 0] []) [(0, .ptr v1 v2), (3, .sl v3), (13, .sl v4), (14, .int .i64 v5), (15, .int .i64 v6)] H (r16_l0 k_ v1 v2 v3 v4 v5 v6 H) := by
  intro k_
  induction k_ with
  | zero => intro _ _ _ _ _ _ _; exact f_none
  | succ k_ ih =>
    intro v1 v2 v3 v4 v5 v6 H
    rw [r16_l0]
    refine f_seq ?_
    refine f_region ?_
    refine f_op rfl rfl (s_lss rfl rfl) ?_
    refine f_nil ?_
    refine f_seq ?_
    refine f_if (fun h1 => ?_) (fun h1 => ?_)
    · skip
      refine f_know 16 rfl (dec_true h1) ?_
      refine f_condT rfl ?_
      refine f_skip ?_
      refine f_seq ?_
      refine f_block ?_
      refine f_seq ?_
      refine f_region ?_
      refine o_ck fun g2 => ?_
      refine f_op rfl rfl (s_idx Tryz.underlying30 ty3 rfl rfl g2) ?_
      refine o_bind ?_; intro x3 hx3
      refine f_op rfl rfl (s_load Tryz.underlying3 rfl rfl (ldI_eq hx3)) ?_
      refine f_op rfl rfl (s_as (v := .int .i64 x3) rfl) ?_
      refine f_nil ?_
      refine f_region ?_
      refine f_op rfl rfl (s_mv (v := .sl v3) rfl) ?_
      refine f_op rfl rfl (s_mv (v := .ptr v1 v2) rfl) ?_
      refine f_op rfl rfl (s_nilCheck rfl) ?_
      refine f_op rfl rfl (s_fieldAddr Tryz.underlying56 rfl ty54 rfl) ?_
      refine o_bind ?_; intro x4 hx4
      refine f_op rfl rfl (s_load Tryz.underlying54 rfl rfl (ldSl_eq hx4)) ?_
      refine f_op rfl rfl (s_mv (v := .int .i64 x3) rfl) ?_
      refine o_ck fun g5 => ?_
      refine f_op rfl rfl (s_idx Tryz.underlying54 ty71 rfl rfl g5) ?_
      refine f_op rfl rfl (s_fieldAddr Tryz.underlying71 rfl ty9 rfl) ?_
      refine o_bind ?_; intro x6 hx6
      refine f_op rfl rfl (s_load Tryz.underlying9 rfl rfl (ldStr_eq hx6)) ?_
      refine f_op rfl rfl (s_buildSlice (cs := [.str x6]) Tryz.underlying38 ty9 (by decide) (by decide) rfl (by decide) rfl) ?_
      refine o_bind ?_; intro x7 hx7
      refine f_op rfl rfl (s_ap rfl rfl Tryz.underlying38 Tryz.underlying38 ty9 rfl rfl rfl rfl rfl rfl rfl hx7) ?_
      refine f_op rfl rfl (s_as (v := .sl x7.1) rfl) ?_
      refine f_nil ?_
      refine f_inBlock ?_
      refine f_region ?_
      refine f_op rfl rfl (s_add rfl rfl) ?_
      refine f_op rfl rfl (s_mv (v := .int .i64 (w64 (v6 + 1))) rfl) ?_
      refine f_nil ?_
      refine f_inLoop ?_
      refine f_keep [0, 3, 13, 14, 15] ?_
      exact ih v1 v2 x7.1 v4 v5 (w64 (v6 + 1)) x7.2
    · skip
      refine f_know 16 rfl (dec_false h1) ?_
      refine f_condF rfl ?_
      refine f_exit rfl ?_
      refine f_seq ?_
      refine f_region ?_
      refine f_op rfl rfl (s_mv (v := .sl v3) rfl) ?_
      refine f_op rfl rfl (s_as (v := .sl v3) rfl) ?_
      refine f_nil ?_
      exact f_ret (.tmp rfl (.nil)) rfl

theorem sim16 {a0b : Nat} {a0o : Nat} {H : Hp} {p : Sl × Hp} (h : r16 a0b a0o H = some p) : CallSim Tryz.prog 16 [.ptr a0b a0o] H (.sl p.1) p.2 := by
  refine callSim (fn := Tryz.f16) (ret := ret16) Tryz.func16 rfl Tryz.ntmps16 rfl ?_ h
  unfold r16
  refine f_seq ?_
  refine f_region ?_
  refine f_op rfl rfl (s_as (v := .sl ⟨true, 0, 0, 0, 0, 0⟩) rfl) ?_
  refine f_nil ?_
  refine f_seq ?_
  refine f_seq ?_
  refine f_region ?_
  refine f_op rfl rfl (s_mv (v := .ptr a0b a0o) rfl) ?_
  refine o_bind ?_; intro p1 hp1
  refine f_op rfl rfl (s_callF rfl ok28 (sim28 hp1)) ?_
  refine f_nil ?_
  refine f_if (fun h2 => ?_) (fun h2 => ?_)
  · skip
    refine f_know 7 rfl (bool_T h2) ?_
    refine f_condT rfl ?_
    refine f_seq ?_
    refine f_region ?_
    refine f_op rfl rfl (s_as (v := .sl ⟨true, 0, 0, 0, 0, 0⟩) rfl) ?_
    refine f_nil ?_
    exact f_ret (.tmp rfl (.nil)) rfl
  · skip
    refine f_know 7 rfl (bool_F h2) ?_
    refine f_condF rfl ?_
    refine f_skip ?_
    refine f_seq ?_
    refine f_region ?_
    refine f_op rfl rfl (s_as (v := .sl ⟨true, 0, 0, 0, 0, 0⟩) rfl) ?_
    refine f_nil ?_
    refine f_seq ?_
    refine f_seq ?_
    refine f_region ?_
    refine f_op rfl rfl (s_mv (v := .ptr a0b a0o) rfl) ?_
    refine f_op rfl rfl (s_mv (v := .ptr a0b a0o) rfl) ?_
    refine f_op rfl rfl (s_nilCheck rfl) ?_
    refine f_op rfl rfl (s_fieldAddr Tryz.underlying56 rfl ty3 rfl) ?_
    refine o_bind ?_; intro x3 hx3
    refine f_op rfl rfl (s_load Tryz.underlying3 rfl rfl (ldI_eq hx3)) ?_
    refine o_bind ?_; intro p4 hp4
    refine f_op rfl rfl (s_callF rfl ok32 (sim32 hp4)) ?_
    refine f_op rfl rfl (s_lenS rfl Tryz.underlying30 rfl) ?_
    refine f_op rfl rfl (s_mv (v := .int .i64 0) rfl) ?_
    refine f_nil ?_
    refine f_block ?_
    refine f_loop ?_
    refine f_keep [0, 3, 13, 14, 15] ?_
    exact s16_l0 FUEL a0b a0o ⟨true, 0, 0, 0, 0, 0⟩ p4.1 (p4.1.len : Int) 0 p4.2

/- 17 (*congou/chest.Chest).Bytes -/
theorem ok17 : FnOk Tryz.prog 17 := ⟨⟨Tryz.f17, Tryz.func17, by kernel_rfl, rfl⟩⟩
theorem s17_l0 : ∀ (k_ : Nat) (v1 : Sl) (v2 : Sl) (v3 : Int) (v4 : Int) (H : Hp), Fin Tryz.prog Tryz.f17 ret17 34 (todoAt (bodyOf Tryz.f17) [1, 1, 1, 0, 1, 0, 0] []) [(3, .sl v1), (12, .sl v2), (13, .int .i64 v3), (14, .int .i64 v4)] H (r17_l0 k_ v1 v2 v3 v4 H) := by
  intro k_
  induction k_ with
  | zero => intro _ _ _ _ _; exact f_none
  | succ k_ ih =>
    intro v1 v2 v3 v4 H
    rw [r17_l0]
    refine f_seq ?_
    refine f_region ?_
    refine f_op rfl rfl (s_lss rfl rfl) ?_
    refine f_nil ?_
    refine f_seq ?_
    refine f_if (fun h1 => ?_) (fun h1 => ?_)
    · skip
      refine f_know 15 rfl (dec_true h1) ?_
      refine f_condT rfl ?_
      refine f_skip ?_
      refine f_seq ?_
      refine f_block ?_
      refine f_seq ?_
      refine f_region ?_
      refine o_ck fun g2 => ?_
      refine f_op rfl rfl (s_idx Tryz.underlying54 ty71 rfl rfl g2) ?_
      refine o_bind ?_; intro x3 hx3
      refine o_bind ?_; intro x4 hx4
      refine o_bind ?_; intro x5 hx5
      refine f_op rfl rfl (s_loads Tryz.underlying71 rfl ty71 rfl (lds_cons (ldStr_eq hx3) (lds_cons (ldI_eq hx4) (lds_cons (ldP_eq hx5) (lds_nil))))) ?_
      refine f_op rfl rfl (s_alloc (zs := [.str (ByteArray.mk #[]), .int .i64 0, .nilptr]) ty71 rfl rfl) ?_
      refine o_bind ?_; intro H6 hH6
      refine f_op rfl rfl (s_stores ty71 rfl rfl rfl rfl hH6 (Nat.le_of_eq (sts_mono hH6).symm)) ?_
      refine f_nil ?_
      refine f_seq ?_
      refine f_region ?_
      refine f_op rfl rfl (s_mv (v := .sl v1) rfl) ?_
      refine f_op rfl rfl (s_fieldAddr Tryz.underlying71 rfl ty3 rfl) ?_
      refine o_bind ?_; intro x7 hx7
      refine f_op rfl rfl (s_load Tryz.underlying3 rfl rfl (ldI_eq hx7)) ?_
      refine f_op rfl rfl (s_convInt Tryz.underlying3 Tryz.underlying5 rfl) ?_
      refine f_op rfl rfl (s_fieldAddr Tryz.underlying71 rfl ty9 rfl) ?_
      refine o_bind ?_; intro x8 hx8
      refine f_op rfl rfl (s_load Tryz.underlying9 rfl rfl (ldStr_eq hx8)) ?_
      refine f_op rfl rfl (s_lenStr rfl Tryz.underlying9 rfl) ?_
      refine f_op rfl rfl (s_convInt Tryz.underlying3 Tryz.underlying5 rfl) ?_
      refine f_op rfl rfl (s_buildSlice (cs := [.int .u8 (IntKind.wrap .u8 (x7)), .int .u8 (IntKind.wrap .u8 ((x8.size : Int)))]) Tryz.underlying40 ty5 (by decide) (by decide) rfl (by decide) rfl) ?_
      refine o_bind ?_; intro x9 hx9
      refine f_op rfl rfl (s_ap rfl rfl Tryz.underlying40 Tryz.underlying40 ty5 rfl rfl rfl rfl rfl rfl rfl hx9) ?_
      refine f_op rfl rfl (s_as (v := .sl x9.1) rfl) ?_
      refine f_nil ?_
      refine f_region ?_
      refine f_op rfl rfl (s_mv (v := .sl x9.1) rfl) ?_
      refine f_op rfl rfl (s_fieldAddr Tryz.underlying71 rfl ty9 rfl) ?_
      refine o_bind ?_; intro x10 hx10
      refine f_op rfl rfl (s_load Tryz.underlying9 rfl rfl (ldStr_eq hx10)) ?_
      refine o_bind ?_; intro x11 hx11
      refine f_op rfl rfl (s_appendStr rfl rfl Tryz.underlying40 Tryz.underlying9 ty5 rfl (by decide) rfl (by decide) rfl rfl hx11) ?_
      refine f_op rfl rfl (s_as (v := .sl x11.1) rfl) ?_
      refine f_nil ?_
      refine f_inBlock ?_
      refine f_region ?_
      refine f_op rfl rfl (s_add rfl rfl) ?_
      refine f_op rfl rfl (s_mv (v := .int .i64 (w64 (v4 + 1))) rfl) ?_
      refine f_nil ?_
      refine f_inLoop ?_
      refine f_keep [3, 12, 13, 14] ?_
      exact ih x11.1 v2 v3 (w64 (v4 + 1)) x11.2
    · skip
      refine f_know 15 rfl (dec_false h1) ?_
      refine f_condF rfl ?_
      refine f_exit rfl ?_
      refine f_seq ?_
      refine f_region ?_
      refine f_op rfl rfl (s_mv (v := .sl v1) rfl) ?_
      refine f_op rfl rfl (s_as (v := .sl v1) rfl) ?_
      refine f_nil ?_
      exact f_ret (.tmp rfl (.nil)) rfl

theorem sim17 {a0b : Nat} {a0o : Nat} {H : Hp} {p : Sl × Hp} (h : r17 a0b a0o H = some p) : CallSim Tryz.prog 17 [.ptr a0b a0o] H (.sl p.1) p.2 := by
  refine callSim (fn := Tryz.f17) (ret := ret17) Tryz.func17 rfl Tryz.ntmps17 rfl ?_ h
  unfold r17
  refine f_seq ?_
  refine f_region ?_
  refine f_op rfl rfl (s_as (v := .sl ⟨true, 0, 0, 0, 0, 0⟩) rfl) ?_
  refine f_nil ?_
  refine f_seq ?_
  refine f_seq ?_
  refine f_region ?_
  refine f_op rfl rfl (s_mv (v := .ptr a0b a0o) rfl) ?_
  refine o_bind ?_; intro p1 hp1
  refine f_op rfl rfl (s_callF rfl ok28 (sim28 hp1)) ?_
  refine f_nil ?_
  refine f_if (fun h2 => ?_) (fun h2 => ?_)
  · skip
    refine f_know 7 rfl (bool_T h2) ?_
    refine f_condT rfl ?_
    refine f_seq ?_
    refine f_region ?_
    refine f_op rfl rfl (s_as (v := .sl ⟨true, 0, 0, 0, 0, 0⟩) rfl) ?_
    refine f_nil ?_
    exact f_ret (.tmp rfl (.nil)) rfl
  · skip
    refine f_know 7 rfl (bool_F h2) ?_
    refine f_condF rfl ?_
    refine f_skip ?_
    refine f_seq ?_
    refine f_region ?_
    refine f_op rfl rfl (s_as (v := .sl ⟨true, 0, 0, 0, 0, 0⟩) rfl) ?_
    refine f_nil ?_
    refine f_seq ?_
    refine f_seq ?_
    refine f_region ?_
    refine f_op rfl rfl (s_mv (v := .ptr a0b a0o) rfl) ?_
    refine f_op rfl rfl (s_nilCheck rfl) ?_
    refine f_op rfl rfl (s_fieldAddr Tryz.underlying56 rfl ty54 rfl) ?_
    refine o_bind ?_; intro x3 hx3
    refine f_op rfl rfl (s_load Tryz.underlying54 rfl rfl (ldSl_eq hx3)) ?_
    refine o_ck fun g4 => ?_
    refine f_op rfl rfl (s_slice Tryz.underlying54 ty71 rfl rfl rfl g4.1 g4.2) ?_
    refine f_op rfl rfl (s_lenS rfl Tryz.underlying54 rfl) ?_
    refine f_op rfl rfl (s_mv (v := .int .i64 0) rfl) ?_
    refine f_nil ?_
    refine f_block ?_
    refine f_loop ?_
    refine f_keep [3, 12, 13, 14] ?_
    exact s17_l0 FUEL ⟨true, 0, 0, 0, 0, 0⟩ (x3.cut 3 (1 : Int).toNat ((x3.len : Int) : Int).toNat) ((x3.cut 3 (1 : Int).toNat ((x3.len : Int) : Int).toNat).len : Int) 0 p1.2

/- 19 (*congou/chest.Chest).Back -/
theorem ok19 : FnOk Tryz.prog 19 := ⟨⟨Tryz.f19, Tryz.func19, by kernel_rfl, rfl⟩⟩
theorem s19_l0 : ∀ (k_ : Nat) (v1 : Nat) (v2 : Nat) (v3 : Int) (v4 : Int) (H : Hp), Fin Tryz.prog Tryz.f19 ret19 39 (todoAt (bodyOf Tryz.f19) [1, 1, 0, 1, 0, 0] []) [(0, .ptr v1 v2), (21, .int .i64 v3), (22, .int .i64 v4)] H (r19_l0 k_ v1 v2 v3 v4 H) := by
  intro k_
  induction k_ with
  | zero => intro _ _ _ _ _; exact f_none
  | succ k_ ih =>
    intro v1 v2 v3 v4 H
    rw [r19_l0]
    refine f_seq ?_
    refine f_region ?_
    refine f_op rfl rfl (s_lss rfl rfl) ?_
    refine f_nil ?_
    refine f_seq ?_
    refine f_if (fun h1 => ?_) (fun h1 => ?_)
    · skip
      refine f_know 23 rfl (dec_true h1) ?_
      refine f_condT rfl ?_
      refine f_skip ?_
      refine f_seq ?_
      refine f_block ?_
      refine f_bind ?_; intro x2 hx2
      refine f_bind ?_; intro x3 hx3
      refine f_ck fun g4 => ?_
      refine f_bind ?_; intro x5 hx5
      refine f_bind ?_; intro H6 hH6
      refine f_draw (Φ := fun _ => True) (lim := 1000000) [0, 0, 0, 0, 1, 0, 0, 0, 1, 0, 0, 1, 0, 0, 2] (Trc.pure rfl rfl rfl (.inl fun _ => s_mv (v := .ptr v1 v2) rfl) (Trc.pure rfl rfl rfl (.inl fun _ => s_mv (v := .ptr v1 v2) rfl) (Trc.pure rfl rfl rfl (.inl fun _ => s_nilCheck rfl) (Trc.pure rfl rfl rfl (.inl fun _ => s_fieldAddr Tryz.underlying56 rfl ty54 rfl) (Trc.read rfl rfl rfl (s_load Tryz.underlying54 rfl rfl (ldSl_eq hx2)) (Trc.pure rfl rfl rfl (.inl fun _ => s_mv (v := .ptr v1 v2) rfl) (Trc.pure rfl rfl rfl (.inl fun _ => s_nilCheck rfl) (Trc.pure rfl rfl rfl (.inl fun _ => s_fieldAddr Tryz.underlying56 rfl ty3 rfl) (Trc.read rfl rfl rfl (s_load Tryz.underlying3 rfl rfl (ldI_eq hx3)) (Trc.pure rfl rfl rfl (.inl fun _ => s_idx Tryz.underlying54 ty71 rfl rfl g4) (Trc.pure rfl rfl rfl (.inl fun _ => s_fieldAddr Tryz.underlying71 rfl ty3 rfl) (Trc.read rfl rfl rfl (s_load Tryz.underlying3 rfl rfl (ldI_eq hx5)) (Trc.pure rfl rfl rfl (.inl fun _ => s_nilCheck rfl) (Trc.pure rfl rfl rfl (.inl fun _ => s_fieldAddr Tryz.underlying56 rfl ty3 rfl) (Trc.eff rfl rfl rfl (fun _ => trivial) (s_store (s := 1) ty3 rfl rfl rfl hH6) (Trc.nil (fun _ => trivial))))))))))))))))) rfl (by decide +kernel) mixed ?_
      refine f_inBlock ?_
      refine f_region ?_
      refine f_op rfl rfl (s_add rfl rfl) ?_
      refine f_op rfl rfl (s_mv (v := .int .i64 (w64 (v4 + 1))) rfl) ?_
      refine f_nil ?_
      refine f_inLoop ?_
      refine f_keep [0, 21, 22] ?_
      exact ih v1 v2 v3 (w64 (v4 + 1)) H6
    · skip
      refine f_know 23 rfl (dec_false h1) ?_
      refine f_condF rfl ?_
      refine f_exit rfl ?_
      refine f_seq ?_
      refine f_region ?_
      refine f_op rfl rfl (s_as (v := .int .i64 0) rfl) ?_
      refine f_nil ?_
      exact f_ret (.tmp rfl (.nil)) rfl

theorem sim19 {a0b : Nat} {a0o : Nat} {a1 : Int} {H : Hp} {p : Int × Hp} (h : r19 a0b a0o a1 H = some p) : CallSim Tryz.prog 19 [.ptr a0b a0o, .int .i64 a1] H (.int .i64 p.1) p.2 := by
  refine callSim (fn := Tryz.f19) (ret := ret19) Tryz.func19 rfl Tryz.ntmps19 rfl ?_ h
  unfold r19
  refine f_seq ?_
  refine f_region ?_
  refine f_op rfl rfl (s_as (v := .int .i64 0) rfl) ?_
  refine f_nil ?_
  refine f_seq ?_
  refine f_block ?_
  refine f_seq ?_
  refine f_region ?_
  refine f_op rfl rfl (s_mv (v := .ptr a0b a0o) rfl) ?_
  refine o_bind ?_; intro p1 hp1
  refine f_op rfl rfl (s_callF rfl ok28 (sim28 hp1)) ?_
  refine f_op rfl rfl (s_as (v := .bool p1.1) rfl) ?_
  refine f_nil ?_
  refine f_if (fun h2 => ?_) (fun h2 => ?_)
  · skip
    refine f_know 5 rfl (bool_T h2) ?_
    refine f_condT rfl ?_
    refine f_seq ?_
    refine f_region ?_
    refine f_op rfl rfl (s_as (v := .int .i64 1) rfl) ?_
    refine f_nil ?_
    exact f_ret (.tmp rfl (.nil)) rfl
  · skip
    refine f_know 5 rfl (bool_F h2) ?_
    refine f_condF rfl ?_
    refine f_seq ?_
    refine f_region ?_
    refine f_op rfl rfl (s_mv (v := .int .i64 a1) rfl) ?_
    refine f_op rfl rfl (s_lss rfl rfl) ?_
    refine f_op rfl rfl (s_as (v := .bool (decide (a1 < 0))) rfl) ?_
    refine f_nil ?_
    refine f_if (fun h3 => ?_) (fun h3 => ?_)
    · skip
      refine f_know 8 rfl (dec_true h3) ?_
      refine f_condT rfl ?_
      refine f_seq ?_
      refine f_region ?_
      refine f_op rfl rfl (s_as (v := .int .i64 2) rfl) ?_
      refine f_nil ?_
      exact f_ret (.tmp rfl (.nil)) rfl
    · skip
      refine f_know 8 rfl (dec_false h3) ?_
      refine f_condF rfl ?_
      refine f_seq ?_
      refine f_region ?_
      refine f_op rfl rfl (s_mv (v := .int .i64 a1) rfl) ?_
      refine f_op rfl rfl (s_mv (v := .ptr a0b a0o) rfl) ?_
      refine f_op rfl rfl (s_mv (v := .ptr a0b a0o) rfl) ?_
      refine f_op rfl rfl (s_nilCheck rfl) ?_
      refine f_op rfl rfl (s_fieldAddr Tryz.underlying56 rfl ty3 rfl) ?_
      refine o_bind ?_; intro x4 hx4
      refine f_op rfl rfl (s_load Tryz.underlying3 rfl rfl (ldI_eq hx4)) ?_
      refine o_bind ?_; intro p5 hp5
      refine f_op rfl rfl (s_callF rfl ok32 (sim32 hp5)) ?_
      refine f_op rfl rfl (s_lenS rfl Tryz.underlying30 rfl) ?_
      refine f_op rfl rfl (s_gtr rfl rfl) ?_
      refine f_op rfl rfl (s_as (v := .bool (decide ((p5.1.len : Int) < a1))) rfl) ?_
      refine f_nil ?_
      refine f_if (fun h6 => ?_) (fun h6 => ?_)
      · skip
        refine f_know 11 rfl (dec_true h6) ?_
        refine f_condT rfl ?_
        refine f_seq ?_
        refine f_region ?_
        refine f_op rfl rfl (s_as (v := .int .i64 4) rfl) ?_
        refine f_nil ?_
        exact f_ret (.tmp rfl (.nil)) rfl
      · skip
        refine f_know 11 rfl (dec_false h6) ?_
        refine f_condF rfl ?_
        refine f_skip ?_
        refine f_inBlock ?_
        refine f_seq ?_
        refine f_seq ?_
        refine f_region ?_
        refine f_op rfl rfl (s_mv (v := .int .i64 a1) rfl) ?_
        refine f_op rfl rfl (s_mv (v := .int .i64 0) rfl) ?_
        refine f_nil ?_
        refine f_block ?_
        refine f_loop ?_
        refine f_keep [0, 21, 22] ?_
        exact s19_l0 FUEL a0b a0o a1 0 p5.2

/- 36 bytes.Equal -/
theorem ok36 : FnOk Tryz.prog 36 := ⟨⟨Tryz.f36, Tryz.func36, by kernel_rfl, rfl⟩⟩
theorem sim36 {a0 : Sl} {a1 : Sl} {H : Hp} {p : Bool × Hp} (h : r36 a0 a1 H = some p) : CallSim Tryz.prog 36 [.sl a0, .sl a1] H (.bool p.1) p.2 := by
  refine callSim (fn := Tryz.f36) (ret := ret36) Tryz.func36 rfl Tryz.ntmps36 rfl ?_ h
  unfold r36
  refine f_seq ?_
  refine f_region ?_
  refine f_op rfl rfl (s_as (v := .bool false) rfl) ?_
  refine f_nil ?_
  refine f_seq ?_
  refine f_region ?_
  refine f_op rfl rfl (s_mv (v := .sl a0) rfl) ?_
  refine o_bind ?_; intro x1 hx1
  refine o_bind ?_; intro x2 hx2
  refine f_op rfl rfl (s_bytesStr Tryz.underlying40 Tryz.underlying9 Tryz.underlying5 rfl hx1 hx2) ?_
  refine f_op rfl rfl (s_mv (v := .sl a1) rfl) ?_
  refine o_bind ?_; intro x3 hx3
  refine o_bind ?_; intro x4 hx4
  refine f_op rfl rfl (s_bytesStr Tryz.underlying40 Tryz.underlying9 Tryz.underlying5 rfl hx3 hx4) ?_
  refine f_op rfl rfl (s_eqStr rfl rfl) ?_
  refine f_op rfl rfl (s_as (v := .bool (strEq (strOfNums x2) (strOfNums x4))) rfl) ?_
  refine f_nil ?_
  exact f_ret (.tmp rfl (.nil)) rfl

/- 20 bytes.HasPrefix -/
theorem ok20 : FnOk Tryz.prog 20 := ⟨⟨Tryz.f20, Tryz.func20, by kernel_rfl, rfl⟩⟩
theorem sim20 {a0 : Sl} {a1 : Sl} {H : Hp} {p : Bool × Hp} (h : r20 a0 a1 H = some p) : CallSim Tryz.prog 20 [.sl a0, .sl a1] H (.bool p.1) p.2 := by
  refine callSim (fn := Tryz.f20) (ret := ret20) Tryz.func20 rfl Tryz.ntmps20 rfl ?_ h
  unfold r20
  refine f_seq ?_
  refine f_region ?_
  refine f_op rfl rfl (s_as (v := .bool false) rfl) ?_
  refine f_nil ?_
  refine f_seq ?_
  refine f_region ?_
  refine f_op rfl rfl (s_mv (v := .sl a0) rfl) ?_
  refine f_op rfl rfl (s_lenS rfl Tryz.underlying40 rfl) ?_
  refine f_op rfl rfl (s_mv (v := .sl a1) rfl) ?_
  refine f_op rfl rfl (s_lenS rfl Tryz.underlying40 rfl) ?_
  refine f_op rfl rfl (s_geq rfl rfl) ?_
  refine f_op rfl rfl (s_mv (v := .bool (decide ((a1.len : Int) ≤ (a0.len : Int)))) rfl) ?_
  refine o_if (fun h1 => ?_) (fun h1 => ?_)
  · skip
    refine o_know 10 rfl (dec_true h1) ?_
    refine f_op rfl rfl (s_mv (v := .sl a0) rfl) ?_
    refine f_op rfl rfl (s_mv (v := .sl a1) rfl) ?_
    refine f_op rfl rfl (s_lenS rfl Tryz.underlying40 rfl) ?_
    refine o_ck fun g2 => ?_
    refine f_op rfl rfl (s_slice Tryz.underlying40 ty5 rfl rfl rfl g2.1 g2.2) ?_
    refine f_op rfl rfl (s_mv (v := .sl a1) rfl) ?_
    refine o_bind ?_; intro p3 hp3
    refine f_op rfl rfl (s_callF rfl ok36 (sim36 hp3)) ?_
    refine f_op rfl rfl (s_pickT (v := .bool p3.1) rfl rfl) ?_
    refine f_op rfl rfl (s_as (v := .bool p3.1) rfl) ?_
    refine f_nil ?_
    exact f_ret (.tmp rfl (.nil)) rfl
  · skip
    refine o_know 10 rfl (dec_false h1) ?_
    refine f_no rfl rfl ?_
    refine f_no rfl rfl ?_
    refine f_no rfl rfl ?_
    refine f_no rfl rfl ?_
    refine f_no rfl rfl ?_
    refine f_no rfl rfl ?_
    refine f_op rfl rfl (s_pickF (v := .bool false) rfl rfl) ?_
    refine f_op rfl rfl (s_as (v := .bool false) rfl) ?_
    refine f_nil ?_
    exact f_ret (.tmp rfl (.nil)) rfl

/- 21 slices.Equal[[]string,string] -/
theorem ok21 : FnOk Tryz.prog 21 := ⟨⟨Tryz.f21, Tryz.func21, by kernel_rfl, rfl⟩⟩
theorem s21_l0 : ∀ (k_ : Nat) (v1 : Sl) (v2 : Sl) (v3 : Int) (v4 : Int) (H : Hp), Fin Tryz.prog Tryz.f21 ret21 26 (todoAt (bodyOf Tryz.f21) [1, 1, 0, 1, 0, 0] []) [(0, .sl v1), (1, .sl v2), (12, .int .i64 v3), (13, .int .i64 v4)] H (r21_l0 k_ v1 v2 v3 v4 H) := by
  intro k_
  induction k_ with
  | zero => intro _ _ _ _ _; exact f_none
  | succ k_ ih =>
    intro v1 v2 v3 v4 H
    rw [r21_l0]
    refine f_seq ?_
    refine f_region ?_
    refine f_op rfl rfl (s_lss rfl rfl) ?_
    refine f_nil ?_
    refine f_seq ?_
    refine f_if (fun h1 => ?_) (fun h1 => ?_)
    · skip
      refine f_know 14 rfl (dec_true h1) ?_
      refine f_condT rfl ?_
      refine f_skip ?_
      refine f_seq ?_
      refine f_block ?_
      refine f_seq ?_
      refine f_region ?_
      refine f_op rfl rfl (s_mv (v := .int .i64 v4) rfl) ?_
      refine f_op rfl rfl (s_as (v := .int .i64 v4) rfl) ?_
      refine f_nil ?_
      refine f_seq ?_
      refine f_ck fun g2 => ?_
      refine f_bind ?_; intro x3 hx3
      refine f_ck fun g4 => ?_
      refine f_bind ?_; intro x5 hx5
      refine f_draw (Φ := fun _ => True) (lim := 1000000) [0, 0, 0, 1, 0, 0, 0, 1, 0] (Trc.pure rfl rfl rfl (.inl fun _ => s_mv (v := .sl v1) rfl) (Trc.pure rfl rfl rfl (.inl fun _ => s_mv (v := .int .i64 v4) rfl) (Trc.pure rfl rfl rfl (.inl fun _ => s_idx Tryz.underlying38 ty9 rfl rfl g2) (Trc.read rfl rfl rfl (s_load Tryz.underlying9 rfl rfl (ldStr_eq hx3)) (Trc.pure rfl rfl rfl (.inl fun _ => s_mv (v := .sl v2) rfl) (Trc.pure rfl rfl rfl (.inl fun _ => s_mv (v := .int .i64 v4) rfl) (Trc.pure rfl rfl rfl (.inl fun _ => s_idx Tryz.underlying38 ty9 rfl rfl g4) (Trc.read rfl rfl rfl (s_load Tryz.underlying9 rfl rfl (ldStr_eq hx5)) (Trc.pure rfl rfl rfl (.inl fun _ => s_neStr rfl rfl) (Trc.nil (fun _ => trivial))))))))))) rfl (by decide +kernel) mixed ?_
      refine f_if (fun h6 => ?_) (fun h6 => ?_)
      · skip
        refine f_know 24 rfl (bool_notT h6) ?_
        refine f_condF rfl ?_
        refine f_skip ?_
        refine f_inBlock ?_
        refine f_region ?_
        refine f_op rfl rfl (s_add rfl rfl) ?_
        refine f_op rfl rfl (s_mv (v := .int .i64 (w64 (v4 + 1))) rfl) ?_
        refine f_nil ?_
        refine f_inLoop ?_
        refine f_keep [0, 1, 12, 13] ?_
        exact ih v1 v2 v3 (w64 (v4 + 1)) H
      · skip
        refine f_know 24 rfl (bool_notF h6) ?_
        refine f_condT rfl ?_
        refine f_seq ?_
        refine f_region ?_
        refine f_op rfl rfl (s_as (v := .bool false) rfl) ?_
        refine f_nil ?_
        exact f_ret (.tmp rfl (.nil)) rfl
    · skip
      refine f_know 14 rfl (dec_false h1) ?_
      refine f_condF rfl ?_
      refine f_exit rfl ?_
      refine f_seq ?_
      refine f_region ?_
      refine f_op rfl rfl (s_as (v := .bool true) rfl) ?_
      refine f_nil ?_
      exact f_ret (.tmp rfl (.nil)) rfl

theorem sim21 {a0 : Sl} {a1 : Sl} {H : Hp} {p : Bool × Hp} (h : r21 a0 a1 H = some p) : CallSim Tryz.prog 21 [.sl a0, .sl a1] H (.bool p.1) p.2 := by
  refine callSim (fn := Tryz.f21) (ret := ret21) Tryz.func21 rfl Tryz.ntmps21 rfl ?_ h
  unfold r21
  refine f_seq ?_
  refine f_region ?_
  refine f_op rfl rfl (s_as (v := .bool false) rfl) ?_
  refine f_nil ?_
  refine f_seq ?_
  refine f_seq ?_
  refine f_region ?_
  refine f_op rfl rfl (s_mv (v := .sl a0) rfl) ?_
  refine f_op rfl rfl (s_lenS rfl Tryz.underlying38 rfl) ?_
  refine f_op rfl rfl (s_mv (v := .sl a1) rfl) ?_
  refine f_op rfl rfl (s_lenS rfl Tryz.underlying38 rfl) ?_
  refine f_op rfl rfl (s_neq rfl rfl) ?_
  refine f_nil ?_
  refine f_if (fun h1 => ?_) (fun h1 => ?_)
  · skip
    refine f_know 10 rfl (dec_true h1) ?_
    refine f_condT rfl ?_
    refine f_seq ?_
    refine f_region ?_
    refine f_op rfl rfl (s_as (v := .bool false) rfl) ?_
    refine f_nil ?_
    exact f_ret (.tmp rfl (.nil)) rfl
  · skip
    refine f_know 10 rfl (dec_false h1) ?_
    refine f_condF rfl ?_
    refine f_skip ?_
    refine f_seq ?_
    refine f_seq ?_
    refine f_region ?_
    refine f_op rfl rfl (s_mv (v := .sl a0) rfl) ?_
    refine f_op rfl rfl (s_lenS rfl Tryz.underlying38 rfl) ?_
    refine f_op rfl rfl (s_mv (v := .int .i64 0) rfl) ?_
    refine f_nil ?_
    refine f_block ?_
    refine f_loop ?_
    refine f_keep [0, 1, 12, 13] ?_
    exact s21_l0 FUEL a0 a1 (a0.len : Int) 0 H

end Go.Lt.P10
