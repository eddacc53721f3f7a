/- PRINTED BY A PROGRAM OF OURS: what each function that 'CutsWithin' reaches computes on the abstract heap, and that the translated code does just that. Nothing is asked of the input. -/
import Derived.Test.YteefkljbmjjncaaG9P3
set_option linter.unusedVariables false
set_option linter.unusedSimpArgs false
set_option maxRecDepth 100000
set_option maxHeartbeats 4000000
namespace Go.Lt.P2
open Go Go.Lt Go.Proofs
/- 9 congou/congoulaw02.CutsWithin -/
theorem ok9 : FnOk Try.prog 9 := ⟨⟨Try.f9, Try.func9, by kernel_rfl, rfl⟩⟩
theorem s9_j8 {app : App} (happ : AppSim Try.prog app) (kt4 : Int → Int → Sl → Sl → Int → Int → Bool → Nat → Nat → Sl → Int → Int → Sl → Int → Int → Hp → Option (Bool × Hp)) (hkt4 : ∀ (v1 : Int) (v2 : Int) (v3 : Sl) (v4 : Sl) (v5 : Int) (v6 : Int) (v7 : Bool) (v8 : Nat) (v9 : Nat) (v10 : Sl) (v11 : Int) (v12 : Int) (v13 : Sl) (v14 : Int) (v15 : Int) (H : Hp), Fin Try.prog Try.f9 ret9 223 (todoAt (bodyOf Try.f9) [1, 1, 1, 1, 1, 1, 1, 1, 0, 1, 0, 0, 1, 1, 0, 0, 1, 1, 1, 1, 1, 1, 0, 0] []) [(1, .int .i64 v1), (2, .int .i64 v2), (7, .sl v3), (9, .sl v4), (11, .int .i64 v5), (12, .int .i64 v6), (13, .bool v7), (15, .ptr v8 0), (18, .ptr v9 0), (95, .sl v10), (96, .int .i64 v11), (97, .int .i64 v12), (135, .sl v13), (136, .int .i64 v14), (137, .int .i64 v15)] H (kt4 v1 v2 v3 v4 v5 v6 v7 v8 v9 v10 v11 v12 v13 v14 v15 H)) (v1 : Int) (v2 : Int) (v3 : Sl) (v4 : Sl) (v5 : Int) (v6 : Int) (v7 : Bool) (v8 : Nat) (v9 : Nat) (v10 : Sl) (v11 : Int) (v12 : Int) (v13 : Sl) (v14 : Int) (v15 : Int) (v16 : Bool) (H : Hp) : Fin Try.prog Try.f9 ret9 223 (todoAt (bodyOf Try.f9) [1, 1, 1, 1, 1, 1, 1, 1, 0, 1, 0, 0, 1, 1, 0, 0, 1, 1, 1, 1, 1, 1, 0, 0, 1, 1, 0, 0, 1, 1, 1] []) [(1, .int .i64 v1), (2, .int .i64 v2), (7, .sl v3), (9, .sl v4), (11, .int .i64 v5), (12, .int .i64 v6), (13, .bool v7), (15, .ptr v8 0), (18, .ptr v9 0), (95, .sl v10), (96, .int .i64 v11), (97, .int .i64 v12), (135, .sl v13), (136, .int .i64 v14), (137, .int .i64 v15), (195, .bool v16)] H (r9_j8 app kt4 v1 v2 v3 v4 v5 v6 v7 v8 v9 v10 v11 v12 v13 v14 v15 v16 H) := by
  unfold r9_j8
  refine f_if (fun h1 => ?_) (fun h1 => ?_)
  · skip
    refine f_know 195 rfl (bool_T h1) ?_
    refine f_condT rfl ?_
    refine f_seq ?_
    refine f_region ?_
    refine f_op rfl rfl (s_as (v := .bool false) rfl) ?_
    refine f_nil ?_
    exact f_ret (.tmp rfl (.nil)) rfl
  · skip
    refine f_know 195 rfl (bool_F h1) ?_
    refine f_condF rfl ?_
    refine f_skip ?_
    refine f_inBlock ?_
    refine f_region ?_
    refine f_op rfl rfl (s_add rfl rfl) ?_
    refine f_op rfl rfl (s_mv (v := .int .i64 (w64 (v15 + 1))) rfl) ?_
    refine f_nil ?_
    refine f_inLoop ?_
    refine f_keep [1, 2, 7, 9, 11, 12, 13, 15, 18, 95, 96, 97, 135, 136, 137] ?_
    exact hkt4 v1 v2 v3 v4 v5 v6 v7 v8 v9 v10 v11 v12 v13 v14 (w64 (v15 + 1)) H

theorem s9_l4 {app : App} (happ : AppSim Try.prog app) (kt3 : Int → Int → Sl → Sl → Int → Int → Bool → Sl → Int → Int → Hp → Option (Bool × Hp)) (hkt3 : ∀ (v1 : Int) (v2 : Int) (v3 : Sl) (v4 : Sl) (v5 : Int) (v6 : Int) (v7 : Bool) (v8 : Sl) (v9 : Int) (v10 : Int) (H : Hp), Fin Try.prog Try.f9 ret9 223 (todoAt (bodyOf Try.f9) [1, 1, 1, 1, 1, 1, 1, 1, 0, 1, 0, 0] []) [(1, .int .i64 v1), (2, .int .i64 v2), (7, .sl v3), (9, .sl v4), (11, .int .i64 v5), (12, .int .i64 v6), (13, .bool v7), (95, .sl v8), (96, .int .i64 v9), (97, .int .i64 v10)] H (kt3 v1 v2 v3 v4 v5 v6 v7 v8 v9 v10 H)) : ∀ (k_ : Nat) (v1 : Int) (v2 : Int) (v3 : Sl) (v4 : Sl) (v5 : Int) (v6 : Int) (v7 : Bool) (v8 : Nat) (v9 : Nat) (v10 : Sl) (v11 : Int) (v12 : Int) (v13 : Sl) (v14 : Int) (v15 : Int) (H : Hp), Fin Try.prog Try.f9 ret9 223 (todoAt (bodyOf Try.f9) [1, 1, 1, 1, 1, 1, 1, 1, 0, 1, 0, 0, 1, 1, 0, 0, 1, 1, 1, 1, 1, 1, 0, 0] []) [(1, .int .i64 v1), (2, .int .i64 v2), (7, .sl v3), (9, .sl v4), (11, .int .i64 v5), (12, .int .i64 v6), (13, .bool v7), (15, .ptr v8 0), (18, .ptr v9 0), (95, .sl v10), (96, .int .i64 v11), (97, .int .i64 v12), (135, .sl v13), (136, .int .i64 v14), (137, .int .i64 v15)] H (r9_l4 app kt3 k_ v1 v2 v3 v4 v5 v6 v7 v8 v9 v10 v11 v12 v13 v14 v15 H) := by
  intro k_
  induction k_ with
  | zero => intro _ _ _ _ _ _ _ _ _ _ _ _ _ _ _ _; exact f_none
  | succ k_ ih =>
    intro v1 v2 v3 v4 v5 v6 v7 v8 v9 v10 v11 v12 v13 v14 v15 H
    rw [r9_l4]
    refine f_seq ?_
    refine f_region ?_
    refine f_op rfl rfl (s_lss rfl rfl) ?_
    refine f_nil ?_
    refine f_seq ?_
    refine f_if (fun h1 => ?_) (fun h1 => ?_)
    · skip
      refine f_know 138 rfl (dec_true h1) ?_
      refine f_condT rfl ?_
      refine f_skip ?_
      refine f_seq ?_
      refine f_block ?_
      refine f_seq ?_
      refine f_region ?_
      refine o_ck fun g2 => ?_
      refine f_op rfl rfl (s_idx Try.underlying37 ty43 rfl rfl g2) ?_
      refine o_bind ?_; intro x3 hx3
      refine o_bind ?_; intro x4 hx4
      refine f_op rfl rfl (s_loads Try.underlying43 rfl ty43 rfl (lds_cons (ldI_eq hx3) (lds_cons (ldI_eq hx4) (lds_nil)))) ?_
      refine f_op rfl rfl (s_alloc (zs := [.int .i64 0, .int .i64 0]) ty43 rfl rfl) ?_
      refine o_bind ?_; intro H5 hH5
      refine f_op rfl rfl (s_stores ty43 rfl rfl rfl rfl hH5 (Nat.le_of_eq (sts_mono hH5).symm)) ?_
      refine f_nil ?_
      refine f_seq ?_
      refine f_region ?_
      refine f_op rfl rfl (s_idxA Try.underlying43 ty3 rfl rfl (by decide)) ?_
      refine o_bind ?_; intro x6 hx6
      refine f_op rfl rfl (s_load Try.underlying3 rfl rfl (ldI_eq hx6)) ?_
      refine f_op rfl rfl (s_idxA Try.underlying43 ty3 rfl rfl (by decide)) ?_
      refine o_bind ?_; intro x7 hx7
      refine f_op rfl rfl (s_load Try.underlying3 rfl rfl (ldI_eq hx7)) ?_
      refine f_op rfl rfl (s_sub rfl rfl) ?_
      refine f_op rfl rfl (s_idxA Try.underlying43 ty3 rfl rfl (by decide)) ?_
      refine o_bind ?_; intro x8 hx8
      refine f_op rfl rfl (s_load Try.underlying3 rfl rfl (ldI_eq hx8)) ?_
      refine f_op rfl rfl (s_idxA Try.underlying43 ty3 rfl rfl (by decide)) ?_
      refine o_bind ?_; intro x9 hx9
      refine f_op rfl rfl (s_load Try.underlying3 rfl rfl (ldI_eq hx9)) ?_
      refine f_op rfl rfl (s_sub rfl rfl) ?_
      refine f_op rfl rfl (s_mul rfl rfl) ?_
      refine f_op rfl rfl (s_idxA Try.underlying43 ty3 rfl rfl (by decide)) ?_
      refine o_bind ?_; intro x10 hx10
      refine f_op rfl rfl (s_load Try.underlying3 rfl rfl (ldI_eq hx10)) ?_
      refine f_op rfl rfl (s_idxA Try.underlying43 ty3 rfl rfl (by decide)) ?_
      refine o_bind ?_; intro x11 hx11
      refine f_op rfl rfl (s_load Try.underlying3 rfl rfl (ldI_eq hx11)) ?_
      refine f_op rfl rfl (s_sub rfl rfl) ?_
      refine f_op rfl rfl (s_idxA Try.underlying43 ty3 rfl rfl (by decide)) ?_
      refine o_bind ?_; intro x12 hx12
      refine f_op rfl rfl (s_load Try.underlying3 rfl rfl (ldI_eq hx12)) ?_
      refine f_op rfl rfl (s_idxA Try.underlying43 ty3 rfl rfl (by decide)) ?_
      refine o_bind ?_; intro x13 hx13
      refine f_op rfl rfl (s_load Try.underlying3 rfl rfl (ldI_eq hx13)) ?_
      refine f_op rfl rfl (s_sub rfl rfl) ?_
      refine f_op rfl rfl (s_mul rfl rfl) ?_
      refine f_op rfl rfl (s_sub rfl rfl) ?_
      refine f_op rfl rfl (s_as (v := .int .i64 (w64 ((w64 ((w64 (x6 - x7)) * (w64 (x8 - x9)))) - (w64 ((w64 (x10 - x11)) * (w64 (x12 - x13))))))) rfl) ?_
      refine f_nil ?_
      refine f_seq ?_
      refine f_region ?_
      refine f_op rfl rfl (s_mv (v := .int .i64 (w64 ((w64 ((w64 (x6 - x7)) * (w64 (x8 - x9)))) - (w64 ((w64 (x10 - x11)) * (w64 (x12 - x13))))))) rfl) ?_
      refine f_op rfl rfl (s_lss rfl rfl) ?_
      refine f_op rfl rfl (s_mv (v := .bool (decide ((w64 ((w64 ((w64 (x6 - x7)) * (w64 (x8 - x9)))) - (w64 ((w64 (x10 - x11)) * (w64 (x12 - x13)))))) < 0))) rfl) ?_
      refine o_if (fun h14 => ?_) (fun h14 => ?_)
      · skip
        refine o_know 166 rfl (dec_true h14) ?_
        refine f_no rfl rfl ?_
        refine f_no rfl rfl ?_
        refine f_no rfl rfl ?_
        refine f_no rfl rfl ?_
        refine f_no rfl rfl ?_
        refine f_no rfl rfl ?_
        refine f_no rfl rfl ?_
        refine f_no rfl rfl ?_
        refine f_no rfl rfl ?_
        refine f_op rfl rfl (s_pickT (v := .bool true) rfl rfl) ?_
        refine f_op rfl rfl (s_mv (v := .bool true) rfl) ?_
        refine f_no rfl rfl ?_
        refine f_no rfl rfl ?_
        refine f_no rfl rfl ?_
        refine f_no rfl rfl ?_
        refine f_no rfl rfl ?_
        refine f_no rfl rfl ?_
        refine f_no rfl rfl ?_
        refine f_no rfl rfl ?_
        refine f_no rfl rfl ?_
        refine f_no rfl rfl ?_
        refine f_no rfl rfl ?_
        refine f_no rfl rfl ?_
        refine f_no rfl rfl ?_
        refine f_no rfl rfl ?_
        refine f_no rfl rfl ?_
        refine f_no rfl rfl ?_
        refine f_no rfl rfl ?_
        refine f_op rfl rfl (s_pickT (v := .bool true) rfl rfl) ?_
        refine f_nil ?_
        refine f_keep [1, 2, 7, 9, 11, 12, 13, 15, 18, 95, 96, 97, 135, 136, 137, 195] ?_
        exact s9_j8 happ _ (fun v1_ v2_ v3_ v4_ v5_ v6_ v7_ v8_ v9_ v10_ v11_ v12_ v13_ v14_ v15_ H_ => ih v1_ v2_ v3_ v4_ v5_ v6_ v7_ v8_ v9_ v10_ v11_ v12_ v13_ v14_ v15_ H_) v1 v2 v3 v4 v5 v6 v7 v8 v9 v10 v11 v12 v13 v14 v15 true H5
      · skip
        refine o_know 166 rfl (dec_false h14) ?_
        refine f_op rfl rfl (s_mv (v := .int .i64 (w64 ((w64 ((w64 (x6 - x7)) * (w64 (x8 - x9)))) - (w64 ((w64 (x10 - x11)) * (w64 (x12 - x13))))))) rfl) ?_
        refine f_op rfl rfl (s_eql rfl rfl) ?_
        refine f_op rfl rfl (s_mv (v := .bool (decide ((w64 ((w64 ((w64 (x6 - x7)) * (w64 (x8 - x9)))) - (w64 ((w64 (x10 - x11)) * (w64 (x12 - x13)))))) = 0))) rfl) ?_
        refine o_if (fun h15 => ?_) (fun h15 => ?_)
        · skip
          refine o_know 169 rfl (dec_true h15) ?_
          refine o_bind ?_; intro x16 hx16
          refine o_bind ?_; intro x17 hx17
          refine f_op rfl rfl (s_loads Try.underlying43 rfl ty43 rfl (lds_cons (ldI_eq hx16) (lds_cons (ldI_eq hx17) (lds_nil)))) ?_
          refine o_bind ?_; intro x18 hx18
          refine o_bind ?_; intro x19 hx19
          refine f_op rfl rfl (s_loads Try.underlying43 rfl ty43 rfl (lds_cons (ldI_eq hx18) (lds_cons (ldI_eq hx19) (lds_nil)))) ?_
          refine o_bind ?_; intro x20 hx20
          refine o_bind ?_; intro x21 hx21
          refine f_op rfl rfl (s_loads Try.underlying43 rfl ty43 rfl (lds_cons (ldI_eq hx20) (lds_cons (ldI_eq hx21) (lds_nil)))) ?_
          refine o_bind ?_; intro p22 hp22
          refine f_op rfl rfl (s_callO rfl ok46 (sim46 hp22) rfl rfl) ?_
          refine f_op rfl rfl (s_not rfl) ?_
          refine f_op rfl rfl (s_pickT (v := .bool (!p22.1)) rfl rfl) ?_
          refine f_op rfl rfl (s_pickF (v := .bool (!p22.1)) rfl rfl) ?_
          refine f_op rfl rfl (s_mv (v := .bool (!p22.1)) rfl) ?_
          refine o_if (fun h23 => ?_) (fun h23 => ?_)
          · skip
            refine o_know 177 rfl (bool_notT h23) ?_
            refine f_op rfl rfl (s_mv (v := .int .i64 (w64 ((w64 ((w64 (x6 - x7)) * (w64 (x8 - x9)))) - (w64 ((w64 (x10 - x11)) * (w64 (x12 - x13))))))) rfl) ?_
            refine f_op rfl rfl (s_eql rfl rfl) ?_
            refine f_op rfl rfl (s_mv (v := .bool (decide ((w64 ((w64 ((w64 (x6 - x7)) * (w64 (x8 - x9)))) - (w64 ((w64 (x10 - x11)) * (w64 (x12 - x13)))))) = 0))) rfl) ?_
            refine o_know 180 rfl (dec_true h15) ?_
            refine o_bind ?_; intro x24 hx24
            refine o_bind ?_; intro x25 hx25
            refine f_op rfl rfl (s_loads Try.underlying43 rfl ty43 rfl (lds_cons (ldI_eq hx24) (lds_cons (ldI_eq hx25) (lds_nil)))) ?_
            refine o_bind ?_; intro x26 hx26
            refine o_bind ?_; intro x27 hx27
            refine f_op rfl rfl (s_loads Try.underlying43 rfl ty43 rfl (lds_cons (ldI_eq hx26) (lds_cons (ldI_eq hx27) (lds_nil)))) ?_
            refine f_op rfl rfl (s_neArr eg43 Try.underlying43 Try.underlying3 ty3 rfl rfl rfl rfl rfl rfl) ?_
            refine f_op rfl rfl (s_pickT (v := .bool (!(AV.keqs [.int .i64 x24, .int .i64 x25] [.int .i64 x26, .int .i64 x27]))) rfl rfl) ?_
            refine f_op rfl rfl (s_mv (v := .bool (!(AV.keqs [.int .i64 x24, .int .i64 x25] [.int .i64 x26, .int .i64 x27]))) rfl) ?_
            refine o_if (fun h28 => ?_) (fun h28 => ?_)
            · skip
              refine o_know 185 rfl (bool_notT h28) ?_
              refine f_no rfl rfl ?_
              refine f_no rfl rfl ?_
              refine f_no rfl rfl ?_
              refine f_op rfl rfl (s_pickF (v := .bool false) rfl rfl) ?_
              refine f_op rfl rfl (s_mv (v := .bool false) rfl) ?_
              refine f_no rfl rfl ?_
              refine f_no rfl rfl ?_
              refine f_no rfl rfl ?_
              refine f_op rfl rfl (s_pickF (v := .bool false) rfl rfl) ?_
              refine f_op rfl rfl (s_pickF (v := .bool false) rfl rfl) ?_
              refine f_nil ?_
              refine f_keep [1, 2, 7, 9, 11, 12, 13, 15, 18, 95, 96, 97, 135, 136, 137, 195] ?_
              exact s9_j8 happ _ (fun v1_ v2_ v3_ v4_ v5_ v6_ v7_ v8_ v9_ v10_ v11_ v12_ v13_ v14_ v15_ H_ => ih v1_ v2_ v3_ v4_ v5_ v6_ v7_ v8_ v9_ v10_ v11_ v12_ v13_ v14_ v15_ H_) v1 v2 v3 v4 v5 v6 v7 v8 v9 v10 v11 v12 v13 v14 v15 false H5
            · skip
              refine o_know 185 rfl (bool_notF h28) ?_
              refine o_bind ?_; intro x29 hx29
              refine o_bind ?_; intro x30 hx30
              refine f_op rfl rfl (s_loads Try.underlying43 rfl ty43 rfl (lds_cons (ldI_eq hx29) (lds_cons (ldI_eq hx30) (lds_nil)))) ?_
              refine o_bind ?_; intro x31 hx31
              refine o_bind ?_; intro x32 hx32
              refine f_op rfl rfl (s_loads Try.underlying43 rfl ty43 rfl (lds_cons (ldI_eq hx31) (lds_cons (ldI_eq hx32) (lds_nil)))) ?_
              refine f_op rfl rfl (s_neArr eg43 Try.underlying43 Try.underlying3 ty3 rfl rfl rfl rfl rfl rfl) ?_
              refine f_op rfl rfl (s_pickT (v := .bool (!(AV.keqs [.int .i64 x29, .int .i64 x30] [.int .i64 x31, .int .i64 x32]))) rfl rfl) ?_
              refine f_op rfl rfl (s_mv (v := .bool (!(AV.keqs [.int .i64 x29, .int .i64 x30] [.int .i64 x31, .int .i64 x32]))) rfl) ?_
              refine o_if (fun h33 => ?_) (fun h33 => ?_)
              · skip
                refine o_know 190 rfl (bool_notT h33) ?_
                refine f_no rfl rfl ?_
                refine f_no rfl rfl ?_
                refine f_no rfl rfl ?_
                refine f_op rfl rfl (s_pickF (v := .bool false) rfl rfl) ?_
                refine f_op rfl rfl (s_pickF (v := .bool false) rfl rfl) ?_
                refine f_nil ?_
                refine f_keep [1, 2, 7, 9, 11, 12, 13, 15, 18, 95, 96, 97, 135, 136, 137, 195] ?_
                exact s9_j8 happ _ (fun v1_ v2_ v3_ v4_ v5_ v6_ v7_ v8_ v9_ v10_ v11_ v12_ v13_ v14_ v15_ H_ => ih v1_ v2_ v3_ v4_ v5_ v6_ v7_ v8_ v9_ v10_ v11_ v12_ v13_ v14_ v15_ H_) v1 v2 v3 v4 v5 v6 v7 v8 v9 v10 v11 v12 v13 v14 v15 false H5
              · skip
                refine o_know 190 rfl (bool_notF h33) ?_
                refine f_op rfl rfl (s_mv (v := .sl v3) rfl) ?_
                refine o_bind ?_; intro x34 hx34
                refine o_bind ?_; intro x35 hx35
                refine f_op rfl rfl (s_loads Try.underlying43 rfl ty43 rfl (lds_cons (ldI_eq hx34) (lds_cons (ldI_eq hx35) (lds_nil)))) ?_
                refine o_bind ?_; intro p36 hp36
                refine f_op rfl rfl (s_callF rfl ok47 (sim47 hp36)) ?_
                refine f_op rfl rfl (s_pickT (v := .bool p36.1) rfl rfl) ?_
                refine f_op rfl rfl (s_pickF (v := .bool p36.1) rfl rfl) ?_
                refine f_nil ?_
                refine f_keep [1, 2, 7, 9, 11, 12, 13, 15, 18, 95, 96, 97, 135, 136, 137, 195] ?_
                exact s9_j8 happ _ (fun v1_ v2_ v3_ v4_ v5_ v6_ v7_ v8_ v9_ v10_ v11_ v12_ v13_ v14_ v15_ H_ => ih v1_ v2_ v3_ v4_ v5_ v6_ v7_ v8_ v9_ v10_ v11_ v12_ v13_ v14_ v15_ H_) v1 v2 v3 v4 v5 v6 v7 v8 v9 v10 v11 v12 v13 v14 v15 p36.1 p36.2
          · skip
            refine o_know 177 rfl (bool_notF h23) ?_
            refine f_no rfl rfl ?_
            refine f_no rfl rfl ?_
            refine f_no rfl rfl ?_
            refine f_no rfl rfl ?_
            refine f_no rfl rfl ?_
            refine f_no rfl rfl ?_
            refine f_no rfl rfl ?_
            refine f_no rfl rfl ?_
            refine f_no rfl rfl ?_
            refine f_no rfl rfl ?_
            refine f_no rfl rfl ?_
            refine f_no rfl rfl ?_
            refine f_no rfl rfl ?_
            refine f_no rfl rfl ?_
            refine f_no rfl rfl ?_
            refine f_no rfl rfl ?_
            refine f_no rfl rfl ?_
            refine f_op rfl rfl (s_pickT (v := .bool true) rfl rfl) ?_
            refine f_nil ?_
            refine f_keep [1, 2, 7, 9, 11, 12, 13, 15, 18, 95, 96, 97, 135, 136, 137, 195] ?_
            exact s9_j8 happ _ (fun v1_ v2_ v3_ v4_ v5_ v6_ v7_ v8_ v9_ v10_ v11_ v12_ v13_ v14_ v15_ H_ => ih v1_ v2_ v3_ v4_ v5_ v6_ v7_ v8_ v9_ v10_ v11_ v12_ v13_ v14_ v15_ H_) v1 v2 v3 v4 v5 v6 v7 v8 v9 v10 v11 v12 v13 v14 v15 true H5
        · skip
          refine o_know 169 rfl (dec_false h15) ?_
          refine f_no rfl rfl ?_
          refine f_no rfl rfl ?_
          refine f_no rfl rfl ?_
          refine f_no rfl rfl ?_
          refine f_no rfl rfl ?_
          refine f_op rfl rfl (s_pickF (v := .bool false) rfl rfl) ?_
          refine f_op rfl rfl (s_pickF (v := .bool false) rfl rfl) ?_
          refine f_op rfl rfl (s_mv (v := .bool false) rfl) ?_
          refine f_op rfl rfl (s_mv (v := .int .i64 (w64 ((w64 ((w64 (x6 - x7)) * (w64 (x8 - x9)))) - (w64 ((w64 (x10 - x11)) * (w64 (x12 - x13))))))) rfl) ?_
          refine f_op rfl rfl (s_eql rfl rfl) ?_
          refine f_op rfl rfl (s_mv (v := .bool (decide ((w64 ((w64 ((w64 (x6 - x7)) * (w64 (x8 - x9)))) - (w64 ((w64 (x10 - x11)) * (w64 (x12 - x13)))))) = 0))) rfl) ?_
          refine o_know 180 rfl (dec_false h15) ?_
          refine f_no rfl rfl ?_
          refine f_no rfl rfl ?_
          refine f_no rfl rfl ?_
          refine f_op rfl rfl (s_pickF (v := .bool false) rfl rfl) ?_
          refine f_op rfl rfl (s_mv (v := .bool false) rfl) ?_
          refine f_no rfl rfl ?_
          refine f_no rfl rfl ?_
          refine f_no rfl rfl ?_
          refine f_op rfl rfl (s_pickF (v := .bool false) rfl rfl) ?_
          refine f_op rfl rfl (s_mv (v := .bool false) rfl) ?_
          refine f_no rfl rfl ?_
          refine f_no rfl rfl ?_
          refine f_no rfl rfl ?_
          refine f_op rfl rfl (s_pickF (v := .bool false) rfl rfl) ?_
          refine f_op rfl rfl (s_pickF (v := .bool false) rfl rfl) ?_
          refine f_nil ?_
          refine f_keep [1, 2, 7, 9, 11, 12, 13, 15, 18, 95, 96, 97, 135, 136, 137, 195] ?_
          exact s9_j8 happ _ (fun v1_ v2_ v3_ v4_ v5_ v6_ v7_ v8_ v9_ v10_ v11_ v12_ v13_ v14_ v15_ H_ => ih v1_ v2_ v3_ v4_ v5_ v6_ v7_ v8_ v9_ v10_ v11_ v12_ v13_ v14_ v15_ H_) v1 v2 v3 v4 v5 v6 v7 v8 v9 v10 v11 v12 v13 v14 v15 false H5
    · skip
      refine f_know 138 rfl (dec_false h1) ?_
      refine f_condF rfl ?_
      refine f_exit rfl ?_
      refine f_inBlock ?_
      refine f_region ?_
      refine f_op rfl rfl (s_add rfl rfl) ?_
      refine f_op rfl rfl (s_mv (v := .int .i64 (w64 (v12 + 1))) rfl) ?_
      refine f_nil ?_
      refine f_inLoop ?_
      refine f_keep [1, 2, 7, 9, 11, 12, 13, 95, 96, 97] ?_
      exact hkt3 v1 v2 v3 v4 v5 v6 v7 v10 v11 (w64 (v12 + 1)) H

theorem s9_j6 {app : App} (happ : AppSim Try.prog app) (v1 : Int) (v2 : Int) (v3 : Int) (v4 : Bool) (v5 : Bool) (H : Hp) : Fin Try.prog Try.f9 ret9 223 (todoAt (bodyOf Try.f9) [1, 1, 1, 1, 1, 1, 1, 1, 1, 0, 1] []) [(1, .int .i64 v1), (2, .int .i64 v2), (12, .int .i64 v3), (13, .bool v4), (205, .bool v5)] H (r9_j6 app v1 v2 v3 v4 v5 H) := by
  unfold r9_j6
  refine f_if (fun h1 => ?_) (fun h1 => ?_)
  · skip
    refine f_know 205 rfl (bool_T h1) ?_
    refine f_condT rfl ?_
    refine f_seq ?_
    refine f_region ?_
    refine f_op rfl rfl (s_as (v := .bool false) rfl) ?_
    refine f_nil ?_
    exact f_ret (.tmp rfl (.nil)) rfl
  · skip
    refine f_know 205 rfl (bool_F h1) ?_
    refine f_condF rfl ?_
    refine f_skip ?_
    refine f_seq ?_
    refine f_seq ?_
    refine f_region ?_
    refine f_op rfl rfl (s_mv (v := .int .i64 v1) rfl) ?_
    refine f_op rfl rfl (s_mv (v := .int .i64 v2) rfl) ?_
    refine o_bind ?_; intro p2 hp2
    refine f_op rfl rfl (s_callO rfl ok48 (sim48 hp2) rfl rfl) ?_
    refine f_op rfl rfl (s_not rfl) ?_
    refine f_nil ?_
    refine f_if (fun h3 => ?_) (fun h3 => ?_)
    · skip
      refine f_know 209 rfl (bool_notT h3) ?_
      refine f_condF rfl ?_
      refine f_skip ?_
      refine f_seq ?_
      refine f_region ?_
      refine f_op rfl rfl (s_mv (v := .int .i64 v3) rfl) ?_
      refine f_op rfl rfl (s_eql rfl rfl) ?_
      refine f_op rfl rfl (s_mv (v := .bool (decide (v3 = 0))) rfl) ?_
      refine o_if (fun h4 => ?_) (fun h4 => ?_)
      · skip
        refine o_know 217 rfl (dec_true h4) ?_
        refine f_op rfl rfl (s_mv (v := .bool v4) rfl) ?_
        refine f_op rfl rfl (s_pickT (v := .bool v4) rfl rfl) ?_
        refine f_op rfl rfl (s_mv (v := .bool v4) rfl) ?_
        refine o_if (fun h5 => ?_) (fun h5 => ?_)
        · skip
          refine o_know 220 rfl (bool_T h5) ?_
          refine o_bind ?_; intro p6 hp6
          refine o_bind ?_; intro x7 hx7
          refine f_op rfl rfl (s_callA happ rfl hp6) ?_
          refine o_know 221 rfl (asB_eq hx7) ?_
          refine f_op rfl rfl (s_pickT (v := .bool x7) rfl rfl) ?_
          refine f_op rfl rfl (s_as (v := .bool x7) rfl) ?_
          refine f_nil ?_
          exact f_ret (.tmp rfl (.nil)) rfl
        · skip
          refine o_know 220 rfl (bool_F h5) ?_
          refine f_no rfl rfl ?_
          refine f_op rfl rfl (s_pickF (v := .bool false) rfl rfl) ?_
          refine f_op rfl rfl (s_as (v := .bool false) rfl) ?_
          refine f_nil ?_
          exact f_ret (.tmp rfl (.nil)) rfl
      · skip
        refine o_know 217 rfl (dec_false h4) ?_
        refine f_no rfl rfl ?_
        refine f_op rfl rfl (s_pickF (v := .bool false) rfl rfl) ?_
        refine f_op rfl rfl (s_mv (v := .bool false) rfl) ?_
        refine f_no rfl rfl ?_
        refine f_op rfl rfl (s_pickF (v := .bool false) rfl rfl) ?_
        refine f_op rfl rfl (s_as (v := .bool false) rfl) ?_
        refine f_nil ?_
        exact f_ret (.tmp rfl (.nil)) rfl
    · skip
      refine f_know 209 rfl (bool_notF h3) ?_
      refine f_condT rfl ?_
      refine f_seq ?_
      refine f_region ?_
      refine f_op rfl rfl (s_mv (v := .int .i64 v3) rfl) ?_
      refine f_op rfl rfl (s_eql rfl rfl) ?_
      refine f_op rfl rfl (s_mv (v := .bool (decide (v3 = 2))) rfl) ?_
      refine o_if (fun h8 => ?_) (fun h8 => ?_)
      · skip
        refine o_know 212 rfl (dec_true h8) ?_
        refine o_bind ?_; intro p9 hp9
        refine o_bind ?_; intro x10 hx10
        refine f_op rfl rfl (s_callA happ rfl hp9) ?_
        refine o_know 213 rfl (asB_eq hx10) ?_
        refine f_op rfl rfl (s_pickT (v := .bool x10) rfl rfl) ?_
        refine f_op rfl rfl (s_as (v := .bool x10) rfl) ?_
        refine f_nil ?_
        exact f_ret (.tmp rfl (.nil)) rfl
      · skip
        refine o_know 212 rfl (dec_false h8) ?_
        refine f_no rfl rfl ?_
        refine f_op rfl rfl (s_pickF (v := .bool false) rfl rfl) ?_
        refine f_op rfl rfl (s_as (v := .bool false) rfl) ?_
        refine f_nil ?_
        exact f_ret (.tmp rfl (.nil)) rfl

theorem s9_j7 {app : App} (happ : AppSim Try.prog app) (v1 : Int) (v2 : Int) (v3 : Sl) (v4 : Sl) (v5 : Int) (v6 : Bool) (H : Hp) : Fin Try.prog Try.f9 ret9 223 (todoAt (bodyOf Try.f9) [1, 1, 1, 1, 1, 1, 1, 1, 1] []) [(1, .int .i64 v1), (2, .int .i64 v2), (7, .sl v3), (9, .sl v4), (12, .int .i64 v5), (13, .bool v6)] H (r9_j7 app v1 v2 v3 v4 v5 v6 H) := by
  unfold r9_j7
  refine f_seq ?_
  refine f_seq ?_
  refine f_region ?_
  refine f_op rfl rfl (s_mv (v := .sl v3) rfl) ?_
  refine f_op rfl rfl (s_lenS rfl Try.underlying37 rfl) ?_
  refine f_op rfl rfl (s_eql rfl rfl) ?_
  refine f_op rfl rfl (s_mv (v := .bool (decide ((v3.len : Int) = 1))) rfl) ?_
  refine o_if (fun h1 => ?_) (fun h1 => ?_)
  · skip
    refine o_know 201 rfl (dec_true h1) ?_
    refine f_op rfl rfl (s_mv (v := .sl v4) rfl) ?_
    refine f_op rfl rfl (s_lenS rfl Try.underlying37 rfl) ?_
    refine f_op rfl rfl (s_neq rfl rfl) ?_
    refine f_op rfl rfl (s_pickT (v := .bool (decide ((v4.len : Int) ≠ 1))) rfl rfl) ?_
    refine f_nil ?_
    refine f_keep [1, 2, 12, 13, 205] ?_
    exact s9_j6 happ v1 v2 v5 v6 (decide ((v4.len : Int) ≠ 1)) H
  · skip
    refine o_know 201 rfl (dec_false h1) ?_
    refine f_no rfl rfl ?_
    refine f_no rfl rfl ?_
    refine f_no rfl rfl ?_
    refine f_op rfl rfl (s_pickF (v := .bool false) rfl rfl) ?_
    refine f_nil ?_
    refine f_keep [1, 2, 12, 13, 205] ?_
    exact s9_j6 happ v1 v2 v5 v6 false H

theorem s9_j5 {app : App} (happ : AppSim Try.prog app) (kt3 : Int → Int → Sl → Sl → Int → Int → Bool → Sl → Int → Int → Hp → Option (Bool × Hp)) (hkt3 : ∀ (v1 : Int) (v2 : Int) (v3 : Sl) (v4 : Sl) (v5 : Int) (v6 : Int) (v7 : Bool) (v8 : Sl) (v9 : Int) (v10 : Int) (H : Hp), Fin Try.prog Try.f9 ret9 223 (todoAt (bodyOf Try.f9) [1, 1, 1, 1, 1, 1, 1, 1, 0, 1, 0, 0] []) [(1, .int .i64 v1), (2, .int .i64 v2), (7, .sl v3), (9, .sl v4), (11, .int .i64 v5), (12, .int .i64 v6), (13, .bool v7), (95, .sl v8), (96, .int .i64 v9), (97, .int .i64 v10)] H (kt3 v1 v2 v3 v4 v5 v6 v7 v8 v9 v10 H)) (v1 : Int) (v2 : Int) (v3 : Sl) (v4 : Sl) (v5 : Int) (v6 : Int) (v7 : Bool) (v8 : Int) (v9 : Nat) (v10 : Sl) (v11 : Int) (v12 : Int) (H : Hp) : Fin Try.prog Try.f9 ret9 223 (todoAt (bodyOf Try.f9) [1, 1, 1, 1, 1, 1, 1, 1, 0, 1, 0, 0, 1, 1, 0, 0, 1, 1, 1] []) [(1, .int .i64 v1), (2, .int .i64 v2), (7, .sl v3), (9, .sl v4), (11, .int .i64 v5), (12, .int .i64 v6), (13, .bool v7), (14, .int .i64 v8), (15, .ptr v9 0), (95, .sl v10), (96, .int .i64 v11), (97, .int .i64 v12)] H (r9_j5 app kt3 v1 v2 v3 v4 v5 v6 v7 v8 v9 v10 v11 v12 H) := by
  unfold r9_j5
  refine f_seq ?_
  refine f_region ?_
  refine f_op rfl rfl (s_mv (v := .sl v3) rfl) ?_
  refine f_op rfl rfl (s_mv (v := .int .i64 v8) rfl) ?_
  refine f_op rfl rfl (s_add rfl rfl) ?_
  refine f_op rfl rfl (s_mv (v := .sl v3) rfl) ?_
  refine f_op rfl rfl (s_lenS rfl Try.underlying37 rfl) ?_
  refine o_ck fun g1 => ?_
  refine f_op rfl rfl (s_rem rfl rfl g1) ?_
  refine o_ck fun g2 => ?_
  refine f_op rfl rfl (s_idx Try.underlying37 ty43 rfl rfl g2) ?_
  refine o_bind ?_; intro x3 hx3
  refine o_bind ?_; intro x4 hx4
  refine f_op rfl rfl (s_loads Try.underlying43 rfl ty43 rfl (lds_cons (ldI_eq hx3) (lds_cons (ldI_eq hx4) (lds_nil)))) ?_
  refine f_op rfl rfl (s_alloc (zs := [.int .i64 0, .int .i64 0]) ty43 rfl rfl) ?_
  refine o_bind ?_; intro H5 hH5
  refine f_op rfl rfl (s_stores ty43 rfl rfl rfl rfl hH5 (Nat.le_of_eq (sts_mono hH5).symm)) ?_
  refine f_nil ?_
  refine f_seq ?_
  refine f_seq ?_
  refine f_region ?_
  refine f_op rfl rfl (s_mv (v := .sl v3) rfl) ?_
  refine f_op rfl rfl (s_lenS rfl Try.underlying37 rfl) ?_
  refine f_op rfl rfl (s_eql rfl rfl) ?_
  refine f_nil ?_
  refine f_if (fun h6 => ?_) (fun h6 => ?_)
  · skip
    refine f_know 134 rfl (dec_true h6) ?_
    refine f_condT rfl ?_
    refine f_exit rfl ?_
    refine f_keep [1, 2, 7, 9, 12, 13] ?_
    exact s9_j7 happ v1 v2 v3 v4 v6 v7 H5
  · skip
    refine f_know 134 rfl (dec_false h6) ?_
    refine f_condF rfl ?_
    refine f_skip ?_
    refine f_seq ?_
    refine f_region ?_
    refine f_op rfl rfl (s_mv (v := .sl v4) rfl) ?_
    refine f_op rfl rfl (s_lenS rfl Try.underlying37 rfl) ?_
    refine f_op rfl rfl (s_mv (v := .int .i64 0) rfl) ?_
    refine f_nil ?_
    refine f_block ?_
    refine f_loop ?_
    refine f_keep [1, 2, 7, 9, 11, 12, 13, 15, 18, 95, 96, 97, 135, 136, 137] ?_
    exact s9_l4 happ _ hkt3 FUEL v1 v2 v3 v4 v5 v6 v7 v9 H.n v10 v11 v12 v4 (v4.len : Int) 0 H5

theorem s9_l3 {app : App} (happ : AppSim Try.prog app) : ∀ (k_ : Nat) (v1 : Int) (v2 : Int) (v3 : Sl) (v4 : Sl) (v5 : Int) (v6 : Int) (v7 : Bool) (v8 : Sl) (v9 : Int) (v10 : Int) (H : Hp), Fin Try.prog Try.f9 ret9 223 (todoAt (bodyOf Try.f9) [1, 1, 1, 1, 1, 1, 1, 1, 0, 1, 0, 0] []) [(1, .int .i64 v1), (2, .int .i64 v2), (7, .sl v3), (9, .sl v4), (11, .int .i64 v5), (12, .int .i64 v6), (13, .bool v7), (95, .sl v8), (96, .int .i64 v9), (97, .int .i64 v10)] H (r9_l3 app k_ v1 v2 v3 v4 v5 v6 v7 v8 v9 v10 H) := by
  intro k_
  induction k_ with
  | zero => intro _ _ _ _ _ _ _ _ _ _ _; exact f_none
  | succ k_ ih =>
    intro v1 v2 v3 v4 v5 v6 v7 v8 v9 v10 H
    rw [r9_l3]
    refine f_seq ?_
    refine f_region ?_
    refine f_op rfl rfl (s_lss rfl rfl) ?_
    refine f_nil ?_
    refine f_seq ?_
    refine f_if (fun h1 => ?_) (fun h1 => ?_)
    · skip
      refine f_know 98 rfl (dec_true h1) ?_
      refine f_condT rfl ?_
      refine f_skip ?_
      refine f_seq ?_
      refine f_block ?_
      refine f_seq ?_
      refine f_region ?_
      refine f_op rfl rfl (s_mv (v := .int .i64 v10) rfl) ?_
      refine o_ck fun g2 => ?_
      refine f_op rfl rfl (s_idx Try.underlying37 ty43 rfl rfl g2) ?_
      refine o_bind ?_; intro x3 hx3
      refine o_bind ?_; intro x4 hx4
      refine f_op rfl rfl (s_loads Try.underlying43 rfl ty43 rfl (lds_cons (ldI_eq hx3) (lds_cons (ldI_eq hx4) (lds_nil)))) ?_
      refine f_op rfl rfl (s_alloc (zs := [.int .i64 0, .int .i64 0]) ty43 rfl rfl) ?_
      refine f_op rfl rfl (s_as (v := .int .i64 v10) rfl) ?_
      refine o_bind ?_; intro H5 hH5
      refine f_op rfl rfl (s_stores ty43 rfl rfl rfl rfl hH5 (Nat.le_of_eq (sts_mono hH5).symm)) ?_
      refine f_nil ?_
      refine f_seq ?_
      refine f_seq ?_
      refine f_region ?_
      refine f_op rfl rfl (s_mv (v := .sl v4) rfl) ?_
      refine o_bind ?_; intro x6 hx6
      refine o_bind ?_; intro x7 hx7
      refine f_op rfl rfl (s_loads Try.underlying43 rfl ty43 rfl (lds_cons (ldI_eq hx6) (lds_cons (ldI_eq hx7) (lds_nil)))) ?_
      refine o_bind ?_; intro p8 hp8
      refine f_op rfl rfl (s_callF rfl ok43 (sim43 happ hp8)) ?_
      refine f_op rfl rfl (s_mv (v := .tup [.int .i64 p8.1.1, .bool p8.1.2]) rfl) ?_
      refine f_op rfl rfl (s_extract (r := .int .i64 p8.1.1) rfl rfl) ?_
      refine f_op rfl rfl (s_extract (r := .bool p8.1.2) rfl rfl) ?_
      refine f_op rfl rfl (s_as (v := .int .i64 p8.1.1) rfl) ?_
      refine f_op rfl rfl (s_as (v := .bool p8.1.2) rfl) ?_
      refine f_nil ?_
      refine f_seq ?_
      refine f_region ?_
      refine f_op rfl rfl (s_mv (v := .bool p8.1.2) rfl) ?_
      refine f_op rfl rfl (s_not rfl) ?_
      refine f_nil ?_
      refine f_if (fun h9 => ?_) (fun h9 => ?_)
      · skip
        refine f_know 109 rfl (bool_notT h9) ?_
        refine f_condF rfl ?_
        refine f_skip ?_
        refine f_seq ?_
        refine f_region ?_
        refine f_op rfl rfl (s_mv (v := .bool v7) rfl) ?_
        refine f_op rfl rfl (s_mv (v := .bool v7) rfl) ?_
        refine o_if (fun h10 => ?_) (fun h10 => ?_)
        · skip
          refine o_know 111 rfl (bool_T h10) ?_
          refine f_no rfl rfl ?_
          refine f_no rfl rfl ?_
          refine f_no rfl rfl ?_
          refine f_no rfl rfl ?_
          refine f_no rfl rfl ?_
          refine f_no rfl rfl ?_
          refine f_no rfl rfl ?_
          refine f_no rfl rfl ?_
          refine f_no rfl rfl ?_
          refine f_no rfl rfl ?_
          refine f_no rfl rfl ?_
          refine f_op rfl rfl (s_pickT (v := .bool true) rfl rfl) ?_
          refine f_op rfl rfl (s_as (v := .bool true) rfl) ?_
          refine f_nil ?_
          refine f_keep [1, 2, 7, 9, 11, 12, 13, 14, 15, 95, 96, 97] ?_
          exact s9_j5 happ _ (fun v1_ v2_ v3_ v4_ v5_ v6_ v7_ v8_ v9_ v10_ H_ => ih v1_ v2_ v3_ v4_ v5_ v6_ v7_ v8_ v9_ v10_ H_) v1 v2 v3 v4 v5 v6 true v10 H.n v8 v9 v10 p8.2
        · skip
          refine o_know 111 rfl (bool_F h10) ?_
          refine f_op rfl rfl (s_mv (v := .int .i64 v1) rfl) ?_
          refine f_op rfl rfl (s_idxA Try.underlying43 ty3 rfl rfl (by decide)) ?_
          refine o_bind ?_; intro x11 hx11
          refine f_op rfl rfl (s_load Try.underlying3 rfl rfl (ldI_eq hx11)) ?_
          refine f_op rfl rfl (s_mul rfl rfl) ?_
          refine f_op rfl rfl (s_mv (v := .int .i64 v2) rfl) ?_
          refine f_op rfl rfl (s_idxA Try.underlying43 ty3 rfl rfl (by decide)) ?_
          refine o_bind ?_; intro x12 hx12
          refine f_op rfl rfl (s_load Try.underlying3 rfl rfl (ldI_eq hx12)) ?_
          refine f_op rfl rfl (s_mul rfl rfl) ?_
          refine f_op rfl rfl (s_add rfl rfl) ?_
          refine f_op rfl rfl (s_mv (v := .int .i64 v5) rfl) ?_
          refine f_op rfl rfl (s_eql rfl rfl) ?_
          refine f_op rfl rfl (s_pickF (v := .bool (decide ((w64 ((w64 (v1 * x11)) + (w64 (v2 * x12)))) = v5))) rfl rfl) ?_
          refine f_op rfl rfl (s_as (v := .bool (decide ((w64 ((w64 (v1 * x11)) + (w64 (v2 * x12)))) = v5))) rfl) ?_
          refine f_nil ?_
          refine f_keep [1, 2, 7, 9, 11, 12, 13, 14, 15, 95, 96, 97] ?_
          exact s9_j5 happ _ (fun v1_ v2_ v3_ v4_ v5_ v6_ v7_ v8_ v9_ v10_ H_ => ih v1_ v2_ v3_ v4_ v5_ v6_ v7_ v8_ v9_ v10_ H_) v1 v2 v3 v4 v5 v6 (decide ((w64 ((w64 (v1 * x11)) + (w64 (v2 * x12)))) = v5)) v10 H.n v8 v9 v10 p8.2
      · skip
        refine f_know 109 rfl (bool_notF h9) ?_
        refine f_condT rfl ?_
        refine f_seq ?_
        refine f_region ?_
        refine f_op rfl rfl (s_as (v := .bool false) rfl) ?_
        refine f_nil ?_
        exact f_ret (.tmp rfl (.nil)) rfl
    · skip
      refine f_know 98 rfl (dec_false h1) ?_
      refine f_condF rfl ?_
      refine f_exit rfl ?_
      refine f_keep [1, 2, 7, 9, 12, 13] ?_
      exact s9_j7 happ v1 v2 v3 v4 v6 v7 H

theorem s9_j2 {app : App} (happ : AppSim Try.prog app) (v1 : Sl) (v2 : Int) (v3 : Int) (v4 : Sl) (v5 : Sl) (v6 : Bool) (H : Hp) : Fin Try.prog Try.f9 ret9 223 (todoAt (bodyOf Try.f9) [1, 1, 1, 1, 1, 0, 1] []) [(0, .sl v1), (1, .int .i64 v2), (2, .int .i64 v3), (7, .sl v4), (9, .sl v5), (86, .bool v6)] H (r9_j2 app v1 v2 v3 v4 v5 v6 H) := by
  unfold r9_j2
  refine f_if (fun h1 => ?_) (fun h1 => ?_)
  · skip
    refine f_know 86 rfl (bool_T h1) ?_
    refine f_condT rfl ?_
    refine f_seq ?_
    refine f_region ?_
    refine f_op rfl rfl (s_as (v := .bool false) rfl) ?_
    refine f_nil ?_
    exact f_ret (.tmp rfl (.nil)) rfl
  · skip
    refine f_know 86 rfl (bool_F h1) ?_
    refine f_condF rfl ?_
    refine f_skip ?_
    refine f_seq ?_
    refine f_region ?_
    refine f_op rfl rfl (s_mv (v := .sl v1) rfl) ?_
    refine o_bind ?_; intro p2 hp2
    refine f_op rfl rfl (s_callF rfl ok18 (sim18 hp2)) ?_
    refine f_op rfl rfl (s_mv (v := .int .i64 v2) rfl) ?_
    refine f_op rfl rfl (s_mv (v := .int .i64 v3) rfl) ?_
    refine o_bind ?_; intro p3 hp3
    refine f_op rfl rfl (s_callF rfl ok42 (sim42 happ hp3)) ?_
    refine f_op rfl rfl (s_mv (v := .tup [.int .i64 p3.1.1, .int .i64 p3.1.2]) rfl) ?_
    refine f_op rfl rfl (s_extract (r := .int .i64 p3.1.1) rfl rfl) ?_
    refine f_op rfl rfl (s_extract (r := .int .i64 p3.1.2) rfl rfl) ?_
    refine f_op rfl rfl (s_as (v := .int .i64 p3.1.1) rfl) ?_
    refine f_op rfl rfl (s_as (v := .int .i64 p3.1.2) rfl) ?_
    refine f_nil ?_
    refine f_seq ?_
    refine f_region ?_
    refine f_op rfl rfl (s_as (v := .bool false) rfl) ?_
    refine f_nil ?_
    refine f_seq ?_
    refine f_seq ?_
    refine f_region ?_
    refine f_op rfl rfl (s_mv (v := .sl v4) rfl) ?_
    refine f_op rfl rfl (s_lenS rfl Try.underlying37 rfl) ?_
    refine f_op rfl rfl (s_mv (v := .int .i64 0) rfl) ?_
    refine f_nil ?_
    refine f_block ?_
    refine f_loop ?_
    refine f_keep [1, 2, 7, 9, 11, 12, 13, 95, 96, 97] ?_
    exact s9_l3 happ FUEL v2 v3 v4 v5 p3.1.1 p3.1.2 false v4 (v4.len : Int) 0 p3.2

theorem s9_j1 {app : App} (happ : AppSim Try.prog app) (v1 : Sl) (v2 : Int) (v3 : Int) (v4 : Sl) (v5 : Int) (v6 : Sl) (v7 : Bool) (H : Hp) : Fin Try.prog Try.f9 ret9 223 (todoAt (bodyOf Try.f9) [1, 1, 1, 1, 0, 1] []) [(0, .sl v1), (1, .int .i64 v2), (2, .int .i64 v3), (7, .sl v4), (8, .int .i64 v5), (9, .sl v6), (57, .bool v7)] H (r9_j1 app v1 v2 v3 v4 v5 v6 v7 H) := by
  unfold r9_j1
  refine f_if (fun h1 => ?_) (fun h1 => ?_)
  · skip
    refine f_know 57 rfl (bool_T h1) ?_
    refine f_condT rfl ?_
    refine f_seq ?_
    refine f_region ?_
    refine f_op rfl rfl (s_mv (v := .sl v6) rfl) ?_
    refine f_op rfl rfl (s_lenS rfl Try.underlying37 rfl) ?_
    refine f_op rfl rfl (s_eql rfl rfl) ?_
    refine f_op rfl rfl (s_mv (v := .bool (decide ((v6.len : Int) = 0))) rfl) ?_
    refine o_if (fun h2 => ?_) (fun h2 => ?_)
    · skip
      refine o_know 61 rfl (dec_true h2) ?_
      refine f_op rfl rfl (s_mv (v := .int .i64 v5) rfl) ?_
      refine f_op rfl rfl (s_eql rfl rfl) ?_
      refine f_op rfl rfl (s_pickT (v := .bool (decide (v5 = 4))) rfl rfl) ?_
      refine f_op rfl rfl (s_mv (v := .bool (decide (v5 = 4))) rfl) ?_
      refine o_if (fun h3 => ?_) (fun h3 => ?_)
      · skip
        refine o_know 65 rfl (dec_true h3) ?_
        refine o_bind ?_; intro p4 hp4
        refine o_bind ?_; intro x5 hx5
        refine f_op rfl rfl (s_callA happ rfl hp4) ?_
        refine o_know 66 rfl (asB_eq hx5) ?_
        refine f_op rfl rfl (s_pickT (v := .bool x5) rfl rfl) ?_
        refine f_op rfl rfl (s_as (v := .bool x5) rfl) ?_
        refine f_nil ?_
        exact f_ret (.tmp rfl (.nil)) rfl
      · skip
        refine o_know 65 rfl (dec_false h3) ?_
        refine f_no rfl rfl ?_
        refine f_op rfl rfl (s_pickF (v := .bool false) rfl rfl) ?_
        refine f_op rfl rfl (s_as (v := .bool false) rfl) ?_
        refine f_nil ?_
        exact f_ret (.tmp rfl (.nil)) rfl
    · skip
      refine o_know 61 rfl (dec_false h2) ?_
      refine f_no rfl rfl ?_
      refine f_no rfl rfl ?_
      refine f_op rfl rfl (s_pickF (v := .bool false) rfl rfl) ?_
      refine f_op rfl rfl (s_mv (v := .bool false) rfl) ?_
      refine f_no rfl rfl ?_
      refine f_op rfl rfl (s_pickF (v := .bool false) rfl rfl) ?_
      refine f_op rfl rfl (s_as (v := .bool false) rfl) ?_
      refine f_nil ?_
      exact f_ret (.tmp rfl (.nil)) rfl
  · skip
    refine f_know 57 rfl (bool_F h1) ?_
    refine f_condF rfl ?_
    refine f_skip ?_
    refine f_seq ?_
    refine f_seq ?_
    refine f_if (fun h6 => ?_) (fun h6 => ?_)
    · skip
      refine f_draw (Φ := fun _ => True) (lim := 1000000) [0, 0, 0, 0, 0, 0, 0, 0, 0, 0, 0, 0, 0, 0, 0, 0, 0, 0, 0] (Trc.pure rfl rfl rfl (.inl fun _ => s_mv (v := .sl v4) rfl) (Trc.pure rfl rfl rfl (.inl fun _ => s_lenS rfl Try.underlying37 rfl) (Trc.pure rfl rfl rfl (.inl fun _ => s_eql rfl rfl) (Trc.pure rfl rfl rfl (.inl fun _ => s_mv (v := .bool (decide ((v4.len : Int) = 0))) rfl) (Trc.know 71 rfl (dec_true h6) (Trc.no rfl rfl rfl (Trc.no rfl rfl rfl (Trc.no rfl rfl rfl (Trc.no rfl rfl rfl (Trc.no rfl rfl rfl (Trc.pure rfl rfl rfl (.inl fun _ => s_pickT (v := .bool true) rfl rfl) (Trc.pure rfl rfl rfl (.inl fun _ => s_mv (v := .bool true) rfl) (Trc.no rfl rfl rfl (Trc.no rfl rfl rfl (Trc.no rfl rfl rfl (Trc.no rfl rfl rfl (Trc.no rfl rfl rfl (Trc.no rfl rfl rfl (Trc.no rfl rfl rfl (Trc.pure rfl rfl rfl (.inl fun _ => s_pickT (v := .bool true) rfl rfl) (Trc.nil (fun _ => trivial)))))))))))))))))))))) rfl (by decide +kernel) mixed ?_
      refine f_keep [0, 1, 2, 7, 9, 86] ?_
      exact s9_j2 happ v1 v2 v3 v4 v6 true H
    · skip
      refine f_if (fun h7 => ?_) (fun h7 => ?_)
      · skip
        refine f_draw (Φ := fun _ => True) (lim := 1000000) [0, 0, 0, 0, 0, 0, 0, 0, 0, 0, 0, 0, 0, 0, 0, 0, 0, 0, 0] (Trc.pure rfl rfl rfl (.inl fun _ => s_mv (v := .sl v4) rfl) (Trc.pure rfl rfl rfl (.inl fun _ => s_lenS rfl Try.underlying37 rfl) (Trc.pure rfl rfl rfl (.inl fun _ => s_eql rfl rfl) (Trc.pure rfl rfl rfl (.inl fun _ => s_mv (v := .bool (decide ((v4.len : Int) = 0))) rfl) (Trc.know 71 rfl (dec_false h6) (Trc.pure rfl rfl rfl (.inl fun _ => s_mv (v := .sl v4) rfl) (Trc.pure rfl rfl rfl (.inl fun _ => s_lenS rfl Try.underlying37 rfl) (Trc.pure rfl rfl rfl (.inl fun _ => s_mv (v := .sl v6) rfl) (Trc.pure rfl rfl rfl (.inl fun _ => s_lenS rfl Try.underlying37 rfl) (Trc.pure rfl rfl rfl (.inl fun _ => s_gtr rfl rfl) (Trc.pure rfl rfl rfl (.inl fun _ => s_pickF (v := .bool (decide ((v6.len : Int) < (v4.len : Int)))) rfl rfl) (Trc.pure rfl rfl rfl (.inl fun _ => s_mv (v := .bool (decide ((v6.len : Int) < (v4.len : Int)))) rfl) (Trc.know 78 rfl (dec_true h7) (Trc.no rfl rfl rfl (Trc.no rfl rfl rfl (Trc.no rfl rfl rfl (Trc.no rfl rfl rfl (Trc.no rfl rfl rfl (Trc.no rfl rfl rfl (Trc.no rfl rfl rfl (Trc.pure rfl rfl rfl (.inl fun _ => s_pickT (v := .bool true) rfl rfl) (Trc.nil (fun _ => trivial))))))))))))))))))))))) rfl (by decide +kernel) mixed ?_
        refine f_keep [0, 1, 2, 7, 9, 86] ?_
        exact s9_j2 happ v1 v2 v3 v4 v6 true H
      · skip
        refine f_ck fun g8 => ?_
        refine f_bind ?_; intro x9 hx9
        refine f_bind ?_; intro x10 hx10
        refine f_ck fun g11 => ?_
        refine f_bind ?_; intro x12 hx12
        refine f_bind ?_; intro x13 hx13
        refine f_draw (Φ := fun _ => True) (lim := 1000000) [0, 0, 0, 0, 0, 0, 0, 0, 0, 0, 0, 0, 0, 1, 0, 0, 1, 0, 0] (Trc.pure rfl rfl rfl (.inl fun _ => s_mv (v := .sl v4) rfl) (Trc.pure rfl rfl rfl (.inl fun _ => s_lenS rfl Try.underlying37 rfl) (Trc.pure rfl rfl rfl (.inl fun _ => s_eql rfl rfl) (Trc.pure rfl rfl rfl (.inl fun _ => s_mv (v := .bool (decide ((v4.len : Int) = 0))) rfl) (Trc.know 71 rfl (dec_false h6) (Trc.pure rfl rfl rfl (.inl fun _ => s_mv (v := .sl v4) rfl) (Trc.pure rfl rfl rfl (.inl fun _ => s_lenS rfl Try.underlying37 rfl) (Trc.pure rfl rfl rfl (.inl fun _ => s_mv (v := .sl v6) rfl) (Trc.pure rfl rfl rfl (.inl fun _ => s_lenS rfl Try.underlying37 rfl) (Trc.pure rfl rfl rfl (.inl fun _ => s_gtr rfl rfl) (Trc.pure rfl rfl rfl (.inl fun _ => s_pickF (v := .bool (decide ((v6.len : Int) < (v4.len : Int)))) rfl rfl) (Trc.pure rfl rfl rfl (.inl fun _ => s_mv (v := .bool (decide ((v6.len : Int) < (v4.len : Int)))) rfl) (Trc.know 78 rfl (dec_false h7) (Trc.pure rfl rfl rfl (.inl fun _ => s_mv (v := .sl v4) rfl) (Trc.pure rfl rfl rfl (.inl fun _ => s_idx Try.underlying37 ty43 rfl rfl g8) (Trc.read rfl rfl rfl (s_loads Try.underlying43 rfl ty43 rfl (lds_cons (ldI_eq hx9) (lds_cons (ldI_eq hx10) (lds_nil)))) (Trc.pure rfl rfl rfl (.inl fun _ => s_mv (v := .sl v6) rfl) (Trc.pure rfl rfl rfl (.inl fun _ => s_idx Try.underlying37 ty43 rfl rfl g11) (Trc.read rfl rfl rfl (s_loads Try.underlying43 rfl ty43 rfl (lds_cons (ldI_eq hx12) (lds_cons (ldI_eq hx13) (lds_nil)))) (Trc.pure rfl rfl rfl (.inl fun _ => s_neArr eg43 Try.underlying43 Try.underlying3 ty3 rfl rfl rfl rfl rfl rfl) (Trc.pure rfl rfl rfl (.inl fun _ => s_pickF (v := .bool (!(AV.keqs [.int .i64 x9, .int .i64 x10] [.int .i64 x12, .int .i64 x13]))) rfl rfl) (Trc.nil (fun _ => trivial))))))))))))))))))))))) rfl (by decide +kernel) mixed ?_
        refine f_keep [0, 1, 2, 7, 9, 86] ?_
        exact s9_j2 happ v1 v2 v3 v4 v6 (!(AV.keqs [.int .i64 x9, .int .i64 x10] [.int .i64 x12, .int .i64 x13])) H

theorem s9_j0 {app : App} (happ : AppSim Try.prog app) (v1 : Sl) (v2 : Int) (v3 : Int) (v4 : Sl) (v5 : Int) (v6 : Sl) (v7 : Int) (v8 : Bool) (H : Hp) : Fin Try.prog Try.f9 ret9 223 (todoAt (bodyOf Try.f9) [1, 1, 1, 0, 1] []) [(0, .sl v1), (1, .int .i64 v2), (2, .int .i64 v3), (7, .sl v4), (8, .int .i64 v5), (9, .sl v6), (10, .int .i64 v7), (40, .bool v8)] H (r9_j0 app v1 v2 v3 v4 v5 v6 v7 v8 H) := by
  unfold r9_j0
  refine f_if (fun h1 => ?_) (fun h1 => ?_)
  · skip
    refine f_know 40 rfl (bool_T h1) ?_
    refine f_condT rfl ?_
    refine f_seq ?_
    refine f_region ?_
    refine f_op rfl rfl (s_mv (v := .int .i64 v5) rfl) ?_
    refine f_op rfl rfl (s_eql rfl rfl) ?_
    refine f_op rfl rfl (s_mv (v := .bool (decide (v5 = 2))) rfl) ?_
    refine o_if (fun h2 => ?_) (fun h2 => ?_)
    · skip
      refine o_know 43 rfl (dec_true h2) ?_
      refine f_op rfl rfl (s_mv (v := .int .i64 v7) rfl) ?_
      refine f_op rfl rfl (s_mv (v := .int .i64 v5) rfl) ?_
      refine f_op rfl rfl (s_eql rfl rfl) ?_
      refine f_op rfl rfl (s_pickT (v := .bool (decide (v7 = v5))) rfl rfl) ?_
      refine f_op rfl rfl (s_mv (v := .bool (decide (v7 = v5))) rfl) ?_
      refine o_if (fun h3 => ?_) (fun h3 => ?_)
      · skip
        refine o_know 48 rfl (dec_true h3) ?_
        refine o_bind ?_; intro p4 hp4
        refine o_bind ?_; intro x5 hx5
        refine f_op rfl rfl (s_callA happ rfl hp4) ?_
        refine o_know 49 rfl (asB_eq hx5) ?_
        refine f_op rfl rfl (s_pickT (v := .bool x5) rfl rfl) ?_
        refine f_op rfl rfl (s_as (v := .bool x5) rfl) ?_
        refine f_nil ?_
        exact f_ret (.tmp rfl (.nil)) rfl
      · skip
        refine o_know 48 rfl (dec_false h3) ?_
        refine f_no rfl rfl ?_
        refine f_op rfl rfl (s_pickF (v := .bool false) rfl rfl) ?_
        refine f_op rfl rfl (s_as (v := .bool false) rfl) ?_
        refine f_nil ?_
        exact f_ret (.tmp rfl (.nil)) rfl
    · skip
      refine o_know 43 rfl (dec_false h2) ?_
      refine f_no rfl rfl ?_
      refine f_no rfl rfl ?_
      refine f_no rfl rfl ?_
      refine f_op rfl rfl (s_pickF (v := .bool false) rfl rfl) ?_
      refine f_op rfl rfl (s_mv (v := .bool false) rfl) ?_
      refine f_no rfl rfl ?_
      refine f_op rfl rfl (s_pickF (v := .bool false) rfl rfl) ?_
      refine f_op rfl rfl (s_as (v := .bool false) rfl) ?_
      refine f_nil ?_
      exact f_ret (.tmp rfl (.nil)) rfl
  · skip
    refine f_know 40 rfl (bool_F h1) ?_
    refine f_condF rfl ?_
    refine f_skip ?_
    refine f_seq ?_
    refine f_seq ?_
    refine f_region ?_
    refine f_op rfl rfl (s_mv (v := .sl v6) rfl) ?_
    refine f_op rfl rfl (s_lenS rfl Try.underlying37 rfl) ?_
    refine f_op rfl rfl (s_eql rfl rfl) ?_
    refine f_op rfl rfl (s_mv (v := .bool (decide ((v6.len : Int) = 0))) rfl) ?_
    refine o_if (fun h6 => ?_) (fun h6 => ?_)
    · skip
      refine o_know 54 rfl (dec_true h6) ?_
      refine f_no rfl rfl ?_
      refine f_no rfl rfl ?_
      refine f_op rfl rfl (s_pickT (v := .bool true) rfl rfl) ?_
      refine f_nil ?_
      refine f_keep [0, 1, 2, 7, 8, 9, 57] ?_
      exact s9_j1 happ v1 v2 v3 v4 v5 v6 true H
    · skip
      refine o_know 54 rfl (dec_false h6) ?_
      refine f_op rfl rfl (s_mv (v := .int .i64 v5) rfl) ?_
      refine f_op rfl rfl (s_neq rfl rfl) ?_
      refine f_op rfl rfl (s_pickF (v := .bool (decide (v5 ≠ 0))) rfl rfl) ?_
      refine f_nil ?_
      refine f_keep [0, 1, 2, 7, 8, 9, 57] ?_
      exact s9_j1 happ v1 v2 v3 v4 v5 v6 (decide (v5 ≠ 0)) H

theorem sim9 {app : App} (happ : AppSim Try.prog app) {a0 : Sl} {a1 : Int} {a2 : Int} {H : Hp} {p : Bool × Hp} (h : r9 app a0 a1 a2 H = some p) : CallSim Try.prog 9 [.sl a0, .int .i64 a1, .int .i64 a2] H (.bool p.1) p.2 := by
  refine callSim (fn := Try.f9) (ret := ret9) Try.func9 rfl Try.ntmps9 rfl ?_ h
  unfold r9
  refine f_seq ?_
  refine f_region ?_
  refine f_op rfl rfl (s_as (v := .bool false) rfl) ?_
  refine f_nil ?_
  refine f_seq ?_
  refine f_region ?_
  refine f_op rfl rfl (s_mv (v := .sl a0) rfl) ?_
  refine o_bind ?_; intro p1 hp1
  refine f_op rfl rfl (s_callF rfl ok18 (sim18 hp1)) ?_
  refine o_bind ?_; intro p2 hp2
  refine f_op rfl rfl (s_callF rfl ok23 (sim23 happ hp2)) ?_
  refine f_op rfl rfl (s_mv (v := .tup [.sl p2.1.1, .int .i64 p2.1.2]) rfl) ?_
  refine f_op rfl rfl (s_extract (r := .sl p2.1.1) rfl rfl) ?_
  refine f_op rfl rfl (s_extract (r := .int .i64 p2.1.2) rfl rfl) ?_
  refine f_op rfl rfl (s_as (v := .sl p2.1.1) rfl) ?_
  refine f_op rfl rfl (s_as (v := .int .i64 p2.1.2) rfl) ?_
  refine f_nil ?_
  refine f_seq ?_
  refine f_region ?_
  refine f_op rfl rfl (s_mv (v := .sl a0) rfl) ?_
  refine o_bind ?_; intro p3 hp3
  refine f_op rfl rfl (s_callF rfl ok18 (sim18 hp3)) ?_
  refine o_bind ?_; intro p4 hp4
  refine f_op rfl rfl (s_callF rfl ok40 (sim40 happ hp4)) ?_
  refine f_op rfl rfl (s_mv (v := .tup [.sl p4.1.1, .int .i64 p4.1.2]) rfl) ?_
  refine f_op rfl rfl (s_extract (r := .sl p4.1.1) rfl rfl) ?_
  refine f_op rfl rfl (s_extract (r := .int .i64 p4.1.2) rfl rfl) ?_
  refine f_op rfl rfl (s_as (v := .sl p4.1.1) rfl) ?_
  refine f_op rfl rfl (s_as (v := .int .i64 p4.1.2) rfl) ?_
  refine f_nil ?_
  refine f_seq ?_
  refine f_seq ?_
  refine f_region ?_
  refine f_op rfl rfl (s_mv (v := .int .i64 p4.1.2) rfl) ?_
  refine f_op rfl rfl (s_neq rfl rfl) ?_
  refine f_op rfl rfl (s_mv (v := .bool (decide (p4.1.2 ≠ 0))) rfl) ?_
  refine o_if (fun h5 => ?_) (fun h5 => ?_)
  · skip
    refine o_know 36 rfl (dec_true h5) ?_
    refine f_no rfl rfl ?_
    refine f_no rfl rfl ?_
    refine f_no rfl rfl ?_
    refine f_op rfl rfl (s_pickT (v := .bool true) rfl rfl) ?_
    refine f_nil ?_
    refine f_keep [0, 1, 2, 7, 8, 9, 10, 40] ?_
    exact s9_j0 happ a0 a1 a2 p2.1.1 p2.1.2 p4.1.1 p4.1.2 true p4.2
  · skip
    refine o_know 36 rfl (dec_false h5) ?_
    refine f_op rfl rfl (s_mv (v := .sl a0) rfl) ?_
    refine o_bind ?_; intro p6 hp6
    refine f_op rfl rfl (s_callF rfl ok19 (sim19 hp6)) ?_
    refine f_op rfl rfl (s_not rfl) ?_
    refine f_op rfl rfl (s_pickF (v := .bool (!p6.1)) rfl rfl) ?_
    refine f_nil ?_
    refine f_keep [0, 1, 2, 7, 8, 9, 10, 40] ?_
    exact s9_j0 happ a0 a1 a2 p2.1.1 p2.1.2 p4.1.1 p4.1.2 (!p6.1) p6.2

/- 96 (congou/cuts.Side).meet -/
theorem ok96 : FnOk Try.prog 96 := ⟨⟨Try.f96, Try.func96, by kernel_rfl, rfl⟩⟩
theorem sim96 {a0_0 : Int} {a0_1 : Int} {a0_2 : Int} {a1_0 : Int} {a1_1 : Int} {a1_2 : Int} {H : Hp} {p : (Int × Int × Int × Int × Bool) × Hp} (h : r96 a0_0 a0_1 a0_2 a1_0 a1_1 a1_2 H = some p) : CallSim Try.prog 96 [.agg [.int .i64 a0_0, .int .i64 a0_1, .int .i64 a0_2], .agg [.int .i64 a1_0, .int .i64 a1_1, .int .i64 a1_2]] H (.tup [.agg [.int .i64 p.1.1, .int .i64 p.1.2.1, .int .i64 p.1.2.2.1, .int .i64 p.1.2.2.2.1], .bool p.1.2.2.2.2]) p.2 := by
  refine callSim (fn := Try.f96) (ret := ret96) Try.func96 rfl Try.ntmps96 rfl ?_ h
  unfold r96
  refine f_seq ?_
  refine f_region ?_
  refine f_op rfl rfl (s_box (v := .agg [.int .i64 a0_0, .int .i64 a0_1, .int .i64 a0_2]) rfl rfl) ?_
  refine f_op rfl rfl (s_box (v := .agg [.int .i64 a1_0, .int .i64 a1_1, .int .i64 a1_2]) rfl rfl) ?_
  refine f_op rfl rfl (s_alloc (zs := [.int .i64 0, .int .i64 0, .int .i64 0, .int .i64 0]) ty32 rfl rfl) ?_
  refine f_op rfl rfl (s_as (v := .bool false) rfl) ?_
  refine o_hp ?_; intro H1 hH1
  refine f_nil ?_
  refine f_seq ?_
  refine f_region ?_
  refine f_op rfl rfl (s_fieldAddr Try.underlying47 rfl ty3 rfl) ?_
  refine o_bind ?_; intro x2 hx2
  refine f_op rfl rfl (s_load Try.underlying3 rfl rfl (ldI_eq hx2)) ?_
  refine f_op rfl rfl (s_fieldAddr Try.underlying47 rfl ty3 rfl) ?_
  refine o_bind ?_; intro x3 hx3
  refine f_op rfl rfl (s_load Try.underlying3 rfl rfl (ldI_eq hx3)) ?_
  refine f_op rfl rfl (s_fieldAddr Try.underlying47 rfl ty3 rfl) ?_
  refine o_bind ?_; intro x4 hx4
  refine f_op rfl rfl (s_load Try.underlying3 rfl rfl (ldI_eq hx4)) ?_
  refine f_op rfl rfl (s_fieldAddr Try.underlying47 rfl ty3 rfl) ?_
  refine o_bind ?_; intro x5 hx5
  refine f_op rfl rfl (s_load Try.underlying3 rfl rfl (ldI_eq hx5)) ?_
  refine o_bind ?_; intro p6 hp6
  refine f_op rfl rfl (s_callO rfl ok97 (sim97 hp6) rfl rfl) ?_
  refine f_op rfl rfl (s_as (v := .int .i64 p6.1) rfl) ?_
  refine f_nil ?_
  refine f_seq ?_
  refine f_seq ?_
  refine f_region ?_
  refine f_op rfl rfl (s_mv (v := .int .i64 p6.1) rfl) ?_
  refine f_op rfl rfl (s_eql rfl rfl) ?_
  refine f_nil ?_
  refine f_if (fun h7 => ?_) (fun h7 => ?_)
  · skip
    refine f_know 17 rfl (dec_true h7) ?_
    refine f_condT rfl ?_
    refine f_seq ?_
    refine f_region ?_
    refine f_op rfl rfl (s_build (cs := [.int .i64 0, .int .i64 0, .int .i64 0, .int .i64 0]) Try.underlying32 ty32 rfl pl32 rfl) ?_
    refine o_bind ?_; intro H8 hH8
    refine f_op rfl rfl (s_stores ty32 rfl rfl rfl rfl hH8 (Nat.le_of_eq (sts_mono hH8).symm)) ?_
    refine f_op rfl rfl (s_as (v := .bool false) rfl) ?_
    refine f_nil ?_
    refine f_bind ?_; intro x9 hx9
    refine f_bind ?_; intro x10 hx10
    refine f_bind ?_; intro x11 hx11
    refine f_bind ?_; intro x12 hx12
    exact f_ret (.cells Try.underlying32 rfl sz32 rfl (lds_cons (ldI_eq hx9) (lds_cons (ldI_eq hx10) (lds_cons (ldI_eq hx11) (lds_cons (ldI_eq hx12) (lds_nil))))) (.tmp rfl (.nil))) rfl
  · skip
    refine f_know 17 rfl (dec_false h7) ?_
    refine f_condF rfl ?_
    refine f_skip ?_
    refine f_seq ?_
    refine f_bind ?_; intro x13 hx13
    refine f_bind ?_; intro x14 hx14
    refine f_bind ?_; intro x15 hx15
    refine f_bind ?_; intro x16 hx16
    refine f_bind ?_; intro p17 hp17
    refine f_bind ?_; intro x18 hx18
    refine f_bind ?_; intro x19 hx19
    refine f_bind ?_; intro x20 hx20
    refine f_bind ?_; intro x21 hx21
    refine f_bind ?_; intro p22 hp22
    refine f_bind ?_; intro H23 hH23
    refine f_draw (Φ := fun _ => True) (lim := 1000000) [0, 1, 0, 1, 0, 0, 1, 0, 1, 0, 0, 0, 0, 0, 1, 0, 1, 0, 0, 1, 0, 1, 0, 0, 0, 0, 0, 2, 0] (Trc.pure rfl rfl rfl (.inl fun _ => s_fieldAddr Try.underlying47 rfl ty3 rfl) (Trc.read rfl rfl rfl (s_load Try.underlying3 rfl rfl (ldI_eq hx13)) (Trc.pure rfl rfl rfl (.inl fun _ => s_fieldAddr Try.underlying47 rfl ty3 rfl) (Trc.read rfl rfl rfl (s_load Try.underlying3 rfl rfl (ldI_eq hx14)) (Trc.pure rfl rfl rfl (.inl fun _ => s_mul rfl rfl) (Trc.pure rfl rfl rfl (.inl fun _ => s_fieldAddr Try.underlying47 rfl ty3 rfl) (Trc.read rfl rfl rfl (s_load Try.underlying3 rfl rfl (ldI_eq hx15)) (Trc.pure rfl rfl rfl (.inl fun _ => s_fieldAddr Try.underlying47 rfl ty3 rfl) (Trc.read rfl rfl rfl (s_load Try.underlying3 rfl rfl (ldI_eq hx16)) (Trc.pure rfl rfl rfl (.inl fun _ => s_mul rfl rfl) (Trc.pure rfl rfl rfl (.inl fun _ => s_sub rfl rfl) (Trc.pure rfl rfl rfl (.inl fun _ => s_mv (v := .int .i64 p6.1) rfl) (Trc.pure rfl rfl rfl (.inl fun _ => s_callO rfl ok100 (sim100 hp17) rfl rfl) (Trc.pure rfl rfl rfl (.inl fun _ => s_fieldAddr Try.underlying47 rfl ty3 rfl) (Trc.read rfl rfl rfl (s_load Try.underlying3 rfl rfl (ldI_eq hx18)) (Trc.pure rfl rfl rfl (.inl fun _ => s_fieldAddr Try.underlying47 rfl ty3 rfl) (Trc.read rfl rfl rfl (s_load Try.underlying3 rfl rfl (ldI_eq hx19)) (Trc.pure rfl rfl rfl (.inl fun _ => s_mul rfl rfl) (Trc.pure rfl rfl rfl (.inl fun _ => s_fieldAddr Try.underlying47 rfl ty3 rfl) (Trc.read rfl rfl rfl (s_load Try.underlying3 rfl rfl (ldI_eq hx20)) (Trc.pure rfl rfl rfl (.inl fun _ => s_fieldAddr Try.underlying47 rfl ty3 rfl) (Trc.read rfl rfl rfl (s_load Try.underlying3 rfl rfl (ldI_eq hx21)) (Trc.pure rfl rfl rfl (.inl fun _ => s_mul rfl rfl) (Trc.pure rfl rfl rfl (.inl fun _ => s_sub rfl rfl) (Trc.pure rfl rfl rfl (.inl fun _ => s_mv (v := .int .i64 p6.1) rfl) (Trc.pure rfl rfl rfl (.inl fun _ => s_callO rfl ok100 (sim100 hp22) rfl rfl) (Trc.pure rfl rfl rfl (.inl fun _ => s_build (cs := [.int .i64 p17.1.1, .int .i64 p17.1.2, .int .i64 p22.1.1, .int .i64 p22.1.2]) Try.underlying32 ty32 rfl pl32 rfl) (Trc.eff rfl rfl rfl (fun _ => trivial) (s_stores ty32 rfl rfl rfl rfl hH23 (Nat.le_of_eq (sts_mono hH23).symm)) (Trc.pure rfl rfl rfl (.inl fun _ => s_as (v := .bool true) rfl) (Trc.nil (fun _ => trivial))))))))))))))))))))))))))))))) rfl (by decide +kernel) mixed ?_
    refine f_bind ?_; intro x24 hx24
    refine f_bind ?_; intro x25 hx25
    refine f_bind ?_; intro x26 hx26
    refine f_bind ?_; intro x27 hx27
    exact f_ret (.cells Try.underlying32 rfl sz32 rfl (lds_cons (ldI_eq hx24) (lds_cons (ldI_eq hx25) (lds_cons (ldI_eq hx26) (lds_cons (ldI_eq hx27) (lds_nil))))) (.tmp rfl (.nil))) rfl

end Go.Lt.P2
