/- PRINTED BY A PROGRAM OF OURS: what each function that 'DealsNear' reaches computes on the abstract heap, and that the translated code does just that. Nothing is asked of the input. -/
import Derived.Test.YtficeemoekikdaaG4P5
set_option linter.unusedVariables false
set_option linter.unusedSimpArgs false
set_option maxRecDepth 100000
set_option maxHeartbeats 4000000
namespace Go.Lt.P5
open Go Go.Lt Go.Proofs
/- 4 congou/congoulaw05.DealsNear -/
theorem ok4 : FnOk Try.prog 4 := ⟨⟨Try.f4, Try.func4, by kernel_rfl, rfl⟩⟩
theorem s4_j2 {app : App} (happ : AppSim Try.prog app) (v1 : Int) (v2 : Nat) (v3 : Nat) (v4 : Nat) (v5 : Bool) (H : Hp) : Fin Try.prog Try.f4 ret4 186 (todoAt (bodyOf Try.f4) [1, 1, 1, 1, 1, 1, 1, 0, 1] []) [(0, .int .i64 v1), (7, .ptr v2 0), (9, .ptr v3 0), (11, .ptr v4 0), (150, .bool v5)] H (r4_j2 app v1 v2 v3 v4 v5 H) := by
  unfold r4_j2
  refine f_if (fun h1 => ?_) (fun h1 => ?_)
  · skip
    refine f_know 150 rfl (bool_T h1) ?_
    refine f_condT rfl ?_
    refine f_seq ?_
    refine f_region ?_
    refine f_op rfl rfl (s_as (v := .bool false) rfl) ?_
    refine f_nil ?_
    exact f_ret (.tmp rfl (.nil)) rfl
  · skip
    refine f_know 150 rfl (bool_F h1) ?_
    refine f_condF rfl ?_
    refine f_skip ?_
    refine f_seq ?_
    refine f_region ?_
    refine f_op rfl rfl (s_mv (v := .int .i64 v1) rfl) ?_
    refine f_op rfl rfl (s_rem rfl rfl (by decide)) ?_
    refine f_op rfl rfl (s_eql rfl rfl) ?_
    refine f_op rfl rfl (s_mv (v := .bool (decide ((Int.tmod v1 2) = 0))) rfl) ?_
    refine o_if (fun h2 => ?_) (fun h2 => ?_)
    · skip
      refine o_know 154 rfl (dec_true h2) ?_
      refine o_bind ?_; intro x3 hx3
      refine o_bind ?_; intro x4 hx4
      refine f_op rfl rfl (s_loads Try.underlying23 rfl ty23 rfl (lds_cons (ldI_eq hx3) (lds_cons (ldI_eq hx4) (lds_nil)))) ?_
      refine o_bind ?_; intro x5 hx5
      refine o_bind ?_; intro x6 hx6
      refine f_op rfl rfl (s_loads Try.underlying23 rfl ty23 rfl (lds_cons (ldI_eq hx5) (lds_cons (ldI_eq hx6) (lds_nil)))) ?_
      refine o_bind ?_; intro p7 hp7
      refine f_op rfl rfl (s_callO rfl ok22 (sim22 hp7) rfl rfl) ?_
      refine f_op rfl rfl (s_not rfl) ?_
      refine f_op rfl rfl (s_pickT (v := .bool (!p7.1)) rfl rfl) ?_
      refine f_op rfl rfl (s_mv (v := .bool (!p7.1)) rfl) ?_
      refine o_if (fun h8 => ?_) (fun h8 => ?_)
      · skip
        refine o_know 160 rfl (bool_notT h8) ?_
        refine f_no rfl rfl ?_
        refine f_no rfl rfl ?_
        refine f_no rfl rfl ?_
        refine f_no rfl rfl ?_
        refine f_op rfl rfl (s_pickF (v := .bool false) rfl rfl) ?_
        refine f_op rfl rfl (s_mv (v := .bool false) rfl) ?_
        refine f_op rfl rfl (s_mv (v := .int .i64 v1) rfl) ?_
        refine f_op rfl rfl (s_rem rfl rfl (by decide)) ?_
        refine f_op rfl rfl (s_eql rfl rfl) ?_
        refine f_op rfl rfl (s_mv (v := .bool (decide ((Int.tmod v1 2) = 1))) rfl) ?_
        refine o_if (fun h9 => ?_) (fun h9 => ?_)
        · skip
          refine o_know 170 rfl (dec_true h9) ?_
          refine o_bind ?_; intro x10 hx10
          refine o_bind ?_; intro x11 hx11
          refine f_op rfl rfl (s_loads Try.underlying23 rfl ty23 rfl (lds_cons (ldI_eq hx10) (lds_cons (ldI_eq hx11) (lds_nil)))) ?_
          refine o_bind ?_; intro x12 hx12
          refine o_bind ?_; intro x13 hx13
          refine f_op rfl rfl (s_loads Try.underlying23 rfl ty23 rfl (lds_cons (ldI_eq hx12) (lds_cons (ldI_eq hx13) (lds_nil)))) ?_
          refine o_bind ?_; intro p14 hp14
          refine f_op rfl rfl (s_callO rfl ok22 (sim22 hp14) rfl rfl) ?_
          refine f_op rfl rfl (s_not rfl) ?_
          refine f_op rfl rfl (s_pickT (v := .bool (!p14.1)) rfl rfl) ?_
          refine f_op rfl rfl (s_mv (v := .bool (!p14.1)) rfl) ?_
          refine o_if (fun h15 => ?_) (fun h15 => ?_)
          · skip
            refine o_know 176 rfl (bool_notT h15) ?_
            refine f_no rfl rfl ?_
            refine f_no rfl rfl ?_
            refine f_no rfl rfl ?_
            refine f_no rfl rfl ?_
            refine f_op rfl rfl (s_pickF (v := .bool false) rfl rfl) ?_
            refine f_op rfl rfl (s_pickF (v := .bool false) rfl rfl) ?_
            refine f_op rfl rfl (s_mv (v := .bool false) rfl) ?_
            refine f_no rfl rfl ?_
            refine f_op rfl rfl (s_pickF (v := .bool false) rfl rfl) ?_
            refine f_op rfl rfl (s_as (v := .bool false) rfl) ?_
            refine f_nil ?_
            exact f_ret (.tmp rfl (.nil)) rfl
          · skip
            refine o_know 176 rfl (bool_notF h15) ?_
            refine o_bind ?_; intro x16 hx16
            refine o_bind ?_; intro x17 hx17
            refine f_op rfl rfl (s_loads Try.underlying23 rfl ty23 rfl (lds_cons (ldI_eq hx16) (lds_cons (ldI_eq hx17) (lds_nil)))) ?_
            refine o_bind ?_; intro x18 hx18
            refine o_bind ?_; intro x19 hx19
            refine f_op rfl rfl (s_loads Try.underlying23 rfl ty23 rfl (lds_cons (ldI_eq hx18) (lds_cons (ldI_eq hx19) (lds_nil)))) ?_
            refine o_bind ?_; intro p20 hp20
            refine f_op rfl rfl (s_callO rfl ok22 (sim22 hp20) rfl rfl) ?_
            refine f_op rfl rfl (s_not rfl) ?_
            refine f_op rfl rfl (s_pickT (v := .bool (!p20.1)) rfl rfl) ?_
            refine f_op rfl rfl (s_pickF (v := .bool (!p20.1)) rfl rfl) ?_
            refine f_op rfl rfl (s_mv (v := .bool (!p20.1)) rfl) ?_
            refine o_if (fun h21 => ?_) (fun h21 => ?_)
            · skip
              refine o_know 183 rfl (bool_notT h21) ?_
              refine f_no rfl rfl ?_
              refine f_op rfl rfl (s_pickF (v := .bool false) rfl rfl) ?_
              refine f_op rfl rfl (s_as (v := .bool false) rfl) ?_
              refine f_nil ?_
              exact f_ret (.tmp rfl (.nil)) rfl
            · skip
              refine o_know 183 rfl (bool_notF h21) ?_
              refine o_bind ?_; intro p22 hp22
              refine o_bind ?_; intro x23 hx23
              refine f_op rfl rfl (s_callA happ rfl hp22) ?_
              refine o_know 184 rfl (asB_eq hx23) ?_
              refine f_op rfl rfl (s_pickT (v := .bool x23) rfl rfl) ?_
              refine f_op rfl rfl (s_as (v := .bool x23) rfl) ?_
              refine f_nil ?_
              exact f_ret (.tmp rfl (.nil)) rfl
        · skip
          refine o_know 170 rfl (dec_false h9) ?_
          refine f_no rfl rfl ?_
          refine f_no rfl rfl ?_
          refine f_no rfl rfl ?_
          refine f_no rfl rfl ?_
          refine f_op rfl rfl (s_pickF (v := .bool false) rfl rfl) ?_
          refine f_op rfl rfl (s_mv (v := .bool false) rfl) ?_
          refine f_no rfl rfl ?_
          refine f_no rfl rfl ?_
          refine f_no rfl rfl ?_
          refine f_no rfl rfl ?_
          refine f_op rfl rfl (s_pickF (v := .bool false) rfl rfl) ?_
          refine f_op rfl rfl (s_pickF (v := .bool false) rfl rfl) ?_
          refine f_op rfl rfl (s_mv (v := .bool false) rfl) ?_
          refine f_no rfl rfl ?_
          refine f_op rfl rfl (s_pickF (v := .bool false) rfl rfl) ?_
          refine f_op rfl rfl (s_as (v := .bool false) rfl) ?_
          refine f_nil ?_
          exact f_ret (.tmp rfl (.nil)) rfl
      · skip
        refine o_know 160 rfl (bool_notF h8) ?_
        refine o_bind ?_; intro x24 hx24
        refine o_bind ?_; intro x25 hx25
        refine f_op rfl rfl (s_loads Try.underlying23 rfl ty23 rfl (lds_cons (ldI_eq hx24) (lds_cons (ldI_eq hx25) (lds_nil)))) ?_
        refine o_bind ?_; intro x26 hx26
        refine o_bind ?_; intro x27 hx27
        refine f_op rfl rfl (s_loads Try.underlying23 rfl ty23 rfl (lds_cons (ldI_eq hx26) (lds_cons (ldI_eq hx27) (lds_nil)))) ?_
        refine o_bind ?_; intro p28 hp28
        refine f_op rfl rfl (s_callO rfl ok22 (sim22 hp28) rfl rfl) ?_
        refine f_op rfl rfl (s_not rfl) ?_
        refine f_op rfl rfl (s_pickT (v := .bool (!p28.1)) rfl rfl) ?_
        refine f_op rfl rfl (s_mv (v := .bool (!p28.1)) rfl) ?_
        refine o_if (fun h29 => ?_) (fun h29 => ?_)
        · skip
          refine o_know 166 rfl (bool_notT h29) ?_
          refine f_op rfl rfl (s_mv (v := .int .i64 v1) rfl) ?_
          refine f_op rfl rfl (s_rem rfl rfl (by decide)) ?_
          refine f_op rfl rfl (s_eql rfl rfl) ?_
          refine f_op rfl rfl (s_mv (v := .bool (decide ((Int.tmod v1 2) = 1))) rfl) ?_
          refine o_if (fun h30 => ?_) (fun h30 => ?_)
          · skip
            refine o_know 170 rfl (dec_true h30) ?_
            refine o_bind ?_; intro x31 hx31
            refine o_bind ?_; intro x32 hx32
            refine f_op rfl rfl (s_loads Try.underlying23 rfl ty23 rfl (lds_cons (ldI_eq hx31) (lds_cons (ldI_eq hx32) (lds_nil)))) ?_
            refine o_bind ?_; intro x33 hx33
            refine o_bind ?_; intro x34 hx34
            refine f_op rfl rfl (s_loads Try.underlying23 rfl ty23 rfl (lds_cons (ldI_eq hx33) (lds_cons (ldI_eq hx34) (lds_nil)))) ?_
            refine o_bind ?_; intro p35 hp35
            refine f_op rfl rfl (s_callO rfl ok22 (sim22 hp35) rfl rfl) ?_
            refine f_op rfl rfl (s_not rfl) ?_
            refine f_op rfl rfl (s_pickT (v := .bool (!p35.1)) rfl rfl) ?_
            refine f_op rfl rfl (s_mv (v := .bool (!p35.1)) rfl) ?_
            refine o_if (fun h36 => ?_) (fun h36 => ?_)
            · skip
              refine o_know 176 rfl (bool_notT h36) ?_
              refine f_no rfl rfl ?_
              refine f_no rfl rfl ?_
              refine f_no rfl rfl ?_
              refine f_no rfl rfl ?_
              refine f_op rfl rfl (s_pickF (v := .bool false) rfl rfl) ?_
              refine f_op rfl rfl (s_pickF (v := .bool false) rfl rfl) ?_
              refine f_op rfl rfl (s_mv (v := .bool false) rfl) ?_
              refine f_no rfl rfl ?_
              refine f_op rfl rfl (s_pickF (v := .bool false) rfl rfl) ?_
              refine f_op rfl rfl (s_as (v := .bool false) rfl) ?_
              refine f_nil ?_
              exact f_ret (.tmp rfl (.nil)) rfl
            · skip
              refine o_know 176 rfl (bool_notF h36) ?_
              refine o_bind ?_; intro x37 hx37
              refine o_bind ?_; intro x38 hx38
              refine f_op rfl rfl (s_loads Try.underlying23 rfl ty23 rfl (lds_cons (ldI_eq hx37) (lds_cons (ldI_eq hx38) (lds_nil)))) ?_
              refine o_bind ?_; intro x39 hx39
              refine o_bind ?_; intro x40 hx40
              refine f_op rfl rfl (s_loads Try.underlying23 rfl ty23 rfl (lds_cons (ldI_eq hx39) (lds_cons (ldI_eq hx40) (lds_nil)))) ?_
              refine o_bind ?_; intro p41 hp41
              refine f_op rfl rfl (s_callO rfl ok22 (sim22 hp41) rfl rfl) ?_
              refine f_op rfl rfl (s_not rfl) ?_
              refine f_op rfl rfl (s_pickT (v := .bool (!p41.1)) rfl rfl) ?_
              refine f_op rfl rfl (s_pickF (v := .bool (!p41.1)) rfl rfl) ?_
              refine f_op rfl rfl (s_mv (v := .bool (!p41.1)) rfl) ?_
              refine o_if (fun h42 => ?_) (fun h42 => ?_)
              · skip
                refine o_know 183 rfl (bool_notT h42) ?_
                refine f_no rfl rfl ?_
                refine f_op rfl rfl (s_pickF (v := .bool false) rfl rfl) ?_
                refine f_op rfl rfl (s_as (v := .bool false) rfl) ?_
                refine f_nil ?_
                exact f_ret (.tmp rfl (.nil)) rfl
              · skip
                refine o_know 183 rfl (bool_notF h42) ?_
                refine o_bind ?_; intro p43 hp43
                refine o_bind ?_; intro x44 hx44
                refine f_op rfl rfl (s_callA happ rfl hp43) ?_
                refine o_know 184 rfl (asB_eq hx44) ?_
                refine f_op rfl rfl (s_pickT (v := .bool x44) rfl rfl) ?_
                refine f_op rfl rfl (s_as (v := .bool x44) rfl) ?_
                refine f_nil ?_
                exact f_ret (.tmp rfl (.nil)) rfl
          · skip
            refine o_know 170 rfl (dec_false h30) ?_
            refine f_no rfl rfl ?_
            refine f_no rfl rfl ?_
            refine f_no rfl rfl ?_
            refine f_no rfl rfl ?_
            refine f_op rfl rfl (s_pickF (v := .bool false) rfl rfl) ?_
            refine f_op rfl rfl (s_mv (v := .bool false) rfl) ?_
            refine f_no rfl rfl ?_
            refine f_no rfl rfl ?_
            refine f_no rfl rfl ?_
            refine f_no rfl rfl ?_
            refine f_op rfl rfl (s_pickF (v := .bool false) rfl rfl) ?_
            refine f_op rfl rfl (s_pickF (v := .bool false) rfl rfl) ?_
            refine f_op rfl rfl (s_mv (v := .bool false) rfl) ?_
            refine f_no rfl rfl ?_
            refine f_op rfl rfl (s_pickF (v := .bool false) rfl rfl) ?_
            refine f_op rfl rfl (s_as (v := .bool false) rfl) ?_
            refine f_nil ?_
            exact f_ret (.tmp rfl (.nil)) rfl
        · skip
          refine o_know 166 rfl (bool_notF h29) ?_
          refine f_no rfl rfl ?_
          refine f_no rfl rfl ?_
          refine f_no rfl rfl ?_
          refine f_no rfl rfl ?_
          refine f_no rfl rfl ?_
          refine f_no rfl rfl ?_
          refine f_no rfl rfl ?_
          refine f_no rfl rfl ?_
          refine f_no rfl rfl ?_
          refine f_no rfl rfl ?_
          refine f_no rfl rfl ?_
          refine f_no rfl rfl ?_
          refine f_no rfl rfl ?_
          refine f_no rfl rfl ?_
          refine f_no rfl rfl ?_
          refine f_op rfl rfl (s_pickT (v := .bool true) rfl rfl) ?_
          refine f_op rfl rfl (s_mv (v := .bool true) rfl) ?_
          refine o_bind ?_; intro p45 hp45
          refine o_bind ?_; intro x46 hx46
          refine f_op rfl rfl (s_callA happ rfl hp45) ?_
          refine o_know 184 rfl (asB_eq hx46) ?_
          refine f_op rfl rfl (s_pickT (v := .bool x46) rfl rfl) ?_
          refine f_op rfl rfl (s_as (v := .bool x46) rfl) ?_
          refine f_nil ?_
          exact f_ret (.tmp rfl (.nil)) rfl
    · skip
      refine o_know 154 rfl (dec_false h2) ?_
      refine f_no rfl rfl ?_
      refine f_no rfl rfl ?_
      refine f_no rfl rfl ?_
      refine f_no rfl rfl ?_
      refine f_op rfl rfl (s_pickF (v := .bool false) rfl rfl) ?_
      refine f_op rfl rfl (s_mv (v := .bool false) rfl) ?_
      refine f_no rfl rfl ?_
      refine f_no rfl rfl ?_
      refine f_no rfl rfl ?_
      refine f_no rfl rfl ?_
      refine f_op rfl rfl (s_pickF (v := .bool false) rfl rfl) ?_
      refine f_op rfl rfl (s_mv (v := .bool false) rfl) ?_
      refine f_op rfl rfl (s_mv (v := .int .i64 v1) rfl) ?_
      refine f_op rfl rfl (s_rem rfl rfl (by decide)) ?_
      refine f_op rfl rfl (s_eql rfl rfl) ?_
      refine f_op rfl rfl (s_mv (v := .bool (decide ((Int.tmod v1 2) = 1))) rfl) ?_
      refine o_if (fun h47 => ?_) (fun h47 => ?_)
      · skip
        refine o_know 170 rfl (dec_true h47) ?_
        refine o_bind ?_; intro x48 hx48
        refine o_bind ?_; intro x49 hx49
        refine f_op rfl rfl (s_loads Try.underlying23 rfl ty23 rfl (lds_cons (ldI_eq hx48) (lds_cons (ldI_eq hx49) (lds_nil)))) ?_
        refine o_bind ?_; intro x50 hx50
        refine o_bind ?_; intro x51 hx51
        refine f_op rfl rfl (s_loads Try.underlying23 rfl ty23 rfl (lds_cons (ldI_eq hx50) (lds_cons (ldI_eq hx51) (lds_nil)))) ?_
        refine o_bind ?_; intro p52 hp52
        refine f_op rfl rfl (s_callO rfl ok22 (sim22 hp52) rfl rfl) ?_
        refine f_op rfl rfl (s_not rfl) ?_
        refine f_op rfl rfl (s_pickT (v := .bool (!p52.1)) rfl rfl) ?_
        refine f_op rfl rfl (s_mv (v := .bool (!p52.1)) rfl) ?_
        refine o_if (fun h53 => ?_) (fun h53 => ?_)
        · skip
          refine o_know 176 rfl (bool_notT h53) ?_
          refine f_no rfl rfl ?_
          refine f_no rfl rfl ?_
          refine f_no rfl rfl ?_
          refine f_no rfl rfl ?_
          refine f_op rfl rfl (s_pickF (v := .bool false) rfl rfl) ?_
          refine f_op rfl rfl (s_pickF (v := .bool false) rfl rfl) ?_
          refine f_op rfl rfl (s_mv (v := .bool false) rfl) ?_
          refine f_no rfl rfl ?_
          refine f_op rfl rfl (s_pickF (v := .bool false) rfl rfl) ?_
          refine f_op rfl rfl (s_as (v := .bool false) rfl) ?_
          refine f_nil ?_
          exact f_ret (.tmp rfl (.nil)) rfl
        · skip
          refine o_know 176 rfl (bool_notF h53) ?_
          refine o_bind ?_; intro x54 hx54
          refine o_bind ?_; intro x55 hx55
          refine f_op rfl rfl (s_loads Try.underlying23 rfl ty23 rfl (lds_cons (ldI_eq hx54) (lds_cons (ldI_eq hx55) (lds_nil)))) ?_
          refine o_bind ?_; intro x56 hx56
          refine o_bind ?_; intro x57 hx57
          refine f_op rfl rfl (s_loads Try.underlying23 rfl ty23 rfl (lds_cons (ldI_eq hx56) (lds_cons (ldI_eq hx57) (lds_nil)))) ?_
          refine o_bind ?_; intro p58 hp58
          refine f_op rfl rfl (s_callO rfl ok22 (sim22 hp58) rfl rfl) ?_
          refine f_op rfl rfl (s_not rfl) ?_
          refine f_op rfl rfl (s_pickT (v := .bool (!p58.1)) rfl rfl) ?_
          refine f_op rfl rfl (s_pickF (v := .bool (!p58.1)) rfl rfl) ?_
          refine f_op rfl rfl (s_mv (v := .bool (!p58.1)) rfl) ?_
          refine o_if (fun h59 => ?_) (fun h59 => ?_)
          · skip
            refine o_know 183 rfl (bool_notT h59) ?_
            refine f_no rfl rfl ?_
            refine f_op rfl rfl (s_pickF (v := .bool false) rfl rfl) ?_
            refine f_op rfl rfl (s_as (v := .bool false) rfl) ?_
            refine f_nil ?_
            exact f_ret (.tmp rfl (.nil)) rfl
          · skip
            refine o_know 183 rfl (bool_notF h59) ?_
            refine o_bind ?_; intro p60 hp60
            refine o_bind ?_; intro x61 hx61
            refine f_op rfl rfl (s_callA happ rfl hp60) ?_
            refine o_know 184 rfl (asB_eq hx61) ?_
            refine f_op rfl rfl (s_pickT (v := .bool x61) rfl rfl) ?_
            refine f_op rfl rfl (s_as (v := .bool x61) rfl) ?_
            refine f_nil ?_
            exact f_ret (.tmp rfl (.nil)) rfl
      · skip
        refine o_know 170 rfl (dec_false h47) ?_
        refine f_no rfl rfl ?_
        refine f_no rfl rfl ?_
        refine f_no rfl rfl ?_
        refine f_no rfl rfl ?_
        refine f_op rfl rfl (s_pickF (v := .bool false) rfl rfl) ?_
        refine f_op rfl rfl (s_mv (v := .bool false) rfl) ?_
        refine f_no rfl rfl ?_
        refine f_no rfl rfl ?_
        refine f_no rfl rfl ?_
        refine f_no rfl rfl ?_
        refine f_op rfl rfl (s_pickF (v := .bool false) rfl rfl) ?_
        refine f_op rfl rfl (s_pickF (v := .bool false) rfl rfl) ?_
        refine f_op rfl rfl (s_mv (v := .bool false) rfl) ?_
        refine f_no rfl rfl ?_
        refine f_op rfl rfl (s_pickF (v := .bool false) rfl rfl) ?_
        refine f_op rfl rfl (s_as (v := .bool false) rfl) ?_
        refine f_nil ?_
        exact f_ret (.tmp rfl (.nil)) rfl

theorem s4_j1 {app : App} (happ : AppSim Try.prog app) (v1 : Int) (v2 : Int) (v3 : Int) (v4 : Nat) (v5 : Nat) (v6 : Bool) (H : Hp) : Fin Try.prog Try.f4 ret4 186 (todoAt (bodyOf Try.f4) [1, 1, 1, 1, 0, 1] []) [(0, .int .i64 v1), (1, .int .i64 v2), (2, .int .i64 v3), (7, .ptr v4 0), (9, .ptr v5 0), (115, .bool v6)] H (r4_j1 app v1 v2 v3 v4 v5 v6 H) := by
  unfold r4_j1
  refine f_if (fun h1 => ?_) (fun h1 => ?_)
  · skip
    refine f_know 115 rfl (bool_T h1) ?_
    refine f_condT rfl ?_
    refine f_seq ?_
    refine f_region ?_
    refine f_op rfl rfl (s_as (v := .bool false) rfl) ?_
    refine f_nil ?_
    exact f_ret (.tmp rfl (.nil)) rfl
  · skip
    refine f_know 115 rfl (bool_F h1) ?_
    refine f_condF rfl ?_
    refine f_skip ?_
    refine f_seq ?_
    refine f_seq ?_
    refine f_region ?_
    refine f_op rfl rfl (s_mv (v := .int .i64 v1) rfl) ?_
    refine f_op rfl rfl (s_gtr rfl rfl) ?_
    refine f_nil ?_
    refine f_if (fun h2 => ?_) (fun h2 => ?_)
    · skip
      refine f_know 117 rfl (dec_true h2) ?_
      refine f_condT rfl ?_
      refine f_seq ?_
      refine f_region ?_
      refine o_bind ?_; intro p3 hp3
      refine o_bind ?_; intro x4 hx4
      refine f_op rfl rfl (s_callA happ rfl hp3) ?_
      refine o_know 118 rfl (asB_eq hx4) ?_
      refine f_op rfl rfl (s_as (v := .bool x4) rfl) ?_
      refine f_nil ?_
      exact f_ret (.tmp rfl (.nil)) rfl
    · skip
      refine f_know 117 rfl (dec_false h2) ?_
      refine f_condF rfl ?_
      refine f_skip ?_
      refine f_seq ?_
      refine f_region ?_
      refine f_op rfl rfl (s_mv (v := .int .i64 v1) rfl) ?_
      refine f_op rfl rfl (s_add rfl rfl) ?_
      refine f_op rfl rfl (s_mv (v := .int .i64 v2) rfl) ?_
      refine f_op rfl rfl (s_mv (v := .int .i64 v3) rfl) ?_
      refine o_bind ?_; intro p5 hp5
      refine f_op rfl rfl (s_callO rfl ok15 (sim15 hp5) rfl rfl) ?_
      refine f_op rfl rfl (s_mv (v := .tup [.agg [.int .i64 p5.1.1, .int .i64 p5.1.2.1], .int .i64 p5.1.2.2]) rfl) ?_
      refine f_op rfl rfl (s_extract (r := .agg [.int .i64 p5.1.1, .int .i64 p5.1.2.1]) rfl rfl) ?_
      refine f_op rfl rfl (s_extract (r := .int .i64 p5.1.2.2) rfl rfl) ?_
      refine f_op rfl rfl (s_alloc (zs := [.int .i64 0, .int .i64 0]) ty23 rfl rfl) ?_
      refine o_bind ?_; intro H6 hH6
      refine f_op rfl rfl (s_stores ty23 rfl rfl rfl rfl hH6 (Nat.le_of_eq (sts_mono hH6).symm)) ?_
      refine f_op rfl rfl (s_as (v := .int .i64 p5.1.2.2) rfl) ?_
      refine f_nil ?_
      refine f_seq ?_
      refine f_seq ?_
      refine f_region ?_
      refine f_op rfl rfl (s_mv (v := .int .i64 p5.1.2.2) rfl) ?_
      refine f_op rfl rfl (s_neq rfl rfl) ?_
      refine f_op rfl rfl (s_mv (v := .bool (decide (p5.1.2.2 ≠ 0))) rfl) ?_
      refine o_if (fun h7 => ?_) (fun h7 => ?_)
      · skip
        refine o_know 129 rfl (dec_true h7) ?_
        refine f_no rfl rfl ?_
        refine f_no rfl rfl ?_
        refine f_no rfl rfl ?_
        refine f_op rfl rfl (s_pickT (v := .bool true) rfl rfl) ?_
        refine f_op rfl rfl (s_mv (v := .bool true) rfl) ?_
        refine f_no rfl rfl ?_
        refine f_no rfl rfl ?_
        refine f_no rfl rfl ?_
        refine f_op rfl rfl (s_pickT (v := .bool true) rfl rfl) ?_
        refine f_op rfl rfl (s_mv (v := .bool true) rfl) ?_
        refine f_no rfl rfl ?_
        refine f_no rfl rfl ?_
        refine f_no rfl rfl ?_
        refine f_op rfl rfl (s_pickT (v := .bool true) rfl rfl) ?_
        refine f_op rfl rfl (s_mv (v := .bool true) rfl) ?_
        refine f_no rfl rfl ?_
        refine f_no rfl rfl ?_
        refine f_no rfl rfl ?_
        refine f_no rfl rfl ?_
        refine f_no rfl rfl ?_
        refine f_op rfl rfl (s_pickT (v := .bool true) rfl rfl) ?_
        refine f_nil ?_
        refine f_keep [0, 7, 9, 11, 150] ?_
        exact s4_j2 happ v1 v4 v5 H.n true H6
      · skip
        refine o_know 129 rfl (dec_false h7) ?_
        refine f_op rfl rfl (s_fieldAddr Try.underlying23 rfl ty3 rfl) ?_
        refine o_bind ?_; intro x8 hx8
        refine f_op rfl rfl (s_load Try.underlying3 rfl rfl (ldI_eq hx8)) ?_
        refine f_op rfl rfl (s_lss rfl rfl) ?_
        refine f_op rfl rfl (s_pickF (v := .bool (decide (x8 < 1))) rfl rfl) ?_
        refine f_op rfl rfl (s_mv (v := .bool (decide (x8 < 1))) rfl) ?_
        refine o_if (fun h9 => ?_) (fun h9 => ?_)
        · skip
          refine o_know 134 rfl (dec_true h9) ?_
          refine f_no rfl rfl ?_
          refine f_no rfl rfl ?_
          refine f_no rfl rfl ?_
          refine f_op rfl rfl (s_pickT (v := .bool true) rfl rfl) ?_
          refine f_op rfl rfl (s_mv (v := .bool true) rfl) ?_
          refine f_no rfl rfl ?_
          refine f_no rfl rfl ?_
          refine f_no rfl rfl ?_
          refine f_op rfl rfl (s_pickT (v := .bool true) rfl rfl) ?_
          refine f_op rfl rfl (s_mv (v := .bool true) rfl) ?_
          refine f_no rfl rfl ?_
          refine f_no rfl rfl ?_
          refine f_no rfl rfl ?_
          refine f_no rfl rfl ?_
          refine f_no rfl rfl ?_
          refine f_op rfl rfl (s_pickT (v := .bool true) rfl rfl) ?_
          refine f_nil ?_
          refine f_keep [0, 7, 9, 11, 150] ?_
          exact s4_j2 happ v1 v4 v5 H.n true H6
        · skip
          refine o_know 134 rfl (dec_false h9) ?_
          refine f_op rfl rfl (s_fieldAddr Try.underlying23 rfl ty3 rfl) ?_
          refine o_bind ?_; intro x10 hx10
          refine f_op rfl rfl (s_load Try.underlying3 rfl rfl (ldI_eq hx10)) ?_
          refine f_op rfl rfl (s_gtr rfl rfl) ?_
          refine f_op rfl rfl (s_pickF (v := .bool (decide (1000000000 < x10))) rfl rfl) ?_
          refine f_op rfl rfl (s_mv (v := .bool (decide (1000000000 < x10))) rfl) ?_
          refine o_if (fun h11 => ?_) (fun h11 => ?_)
          · skip
            refine o_know 139 rfl (dec_true h11) ?_
            refine f_no rfl rfl ?_
            refine f_no rfl rfl ?_
            refine f_no rfl rfl ?_
            refine f_op rfl rfl (s_pickT (v := .bool true) rfl rfl) ?_
            refine f_op rfl rfl (s_mv (v := .bool true) rfl) ?_
            refine f_no rfl rfl ?_
            refine f_no rfl rfl ?_
            refine f_no rfl rfl ?_
            refine f_no rfl rfl ?_
            refine f_no rfl rfl ?_
            refine f_op rfl rfl (s_pickT (v := .bool true) rfl rfl) ?_
            refine f_nil ?_
            refine f_keep [0, 7, 9, 11, 150] ?_
            exact s4_j2 happ v1 v4 v5 H.n true H6
          · skip
            refine o_know 139 rfl (dec_false h11) ?_
            refine f_op rfl rfl (s_fieldAddr Try.underlying23 rfl ty3 rfl) ?_
            refine o_bind ?_; intro x12 hx12
            refine f_op rfl rfl (s_load Try.underlying3 rfl rfl (ldI_eq hx12)) ?_
            refine f_op rfl rfl (s_lss rfl rfl) ?_
            refine f_op rfl rfl (s_pickF (v := .bool (decide (x12 < 0))) rfl rfl) ?_
            refine f_op rfl rfl (s_mv (v := .bool (decide (x12 < 0))) rfl) ?_
            refine o_if (fun h13 => ?_) (fun h13 => ?_)
            · skip
              refine o_know 144 rfl (dec_true h13) ?_
              refine f_no rfl rfl ?_
              refine f_no rfl rfl ?_
              refine f_no rfl rfl ?_
              refine f_no rfl rfl ?_
              refine f_no rfl rfl ?_
              refine f_op rfl rfl (s_pickT (v := .bool true) rfl rfl) ?_
              refine f_nil ?_
              refine f_keep [0, 7, 9, 11, 150] ?_
              exact s4_j2 happ v1 v4 v5 H.n true H6
            · skip
              refine o_know 144 rfl (dec_false h13) ?_
              refine f_op rfl rfl (s_fieldAddr Try.underlying23 rfl ty3 rfl) ?_
              refine o_bind ?_; intro x14 hx14
              refine f_op rfl rfl (s_load Try.underlying3 rfl rfl (ldI_eq hx14)) ?_
              refine f_op rfl rfl (s_fieldAddr Try.underlying23 rfl ty3 rfl) ?_
              refine o_bind ?_; intro x15 hx15
              refine f_op rfl rfl (s_load Try.underlying3 rfl rfl (ldI_eq hx15)) ?_
              refine f_op rfl rfl (s_gtr rfl rfl) ?_
              refine f_op rfl rfl (s_pickF (v := .bool (decide (x15 < x14))) rfl rfl) ?_
              refine f_nil ?_
              refine f_keep [0, 7, 9, 11, 150] ?_
              exact s4_j2 happ v1 v4 v5 H.n (decide (x15 < x14)) H6

theorem s4_j0 {app : App} (happ : AppSim Try.prog app) (v1 : Int) (v2 : Int) (v3 : Int) (v4 : Nat) (v5 : Int) (v6 : Nat) (v7 : Int) (v8 : Bool) (H : Hp) : Fin Try.prog Try.f4 ret4 186 (todoAt (bodyOf Try.f4) [1, 1, 1, 0, 1] []) [(0, .int .i64 v1), (1, .int .i64 v2), (2, .int .i64 v3), (7, .ptr v4 0), (8, .int .i64 v5), (9, .ptr v6 0), (10, .int .i64 v7), (44, .bool v8)] H (r4_j0 app v1 v2 v3 v4 v5 v6 v7 v8 H) := by
  unfold r4_j0
  refine f_if (fun h1 => ?_) (fun h1 => ?_)
  · skip
    refine f_know 44 rfl (bool_T h1) ?_
    refine f_condT rfl ?_
    refine f_seq ?_
    refine f_region ?_
    refine f_op rfl rfl (s_mv (v := .int .i64 v5) rfl) ?_
    refine f_op rfl rfl (s_eql rfl rfl) ?_
    refine f_op rfl rfl (s_mv (v := .bool (decide (v5 = 2))) rfl) ?_
    refine o_if (fun h2 => ?_) (fun h2 => ?_)
    · skip
      refine o_know 47 rfl (dec_true h2) ?_
      refine f_no rfl rfl ?_
      refine f_no rfl rfl ?_
      refine f_op rfl rfl (s_pickT (v := .bool true) rfl rfl) ?_
      refine f_op rfl rfl (s_mv (v := .bool true) rfl) ?_
      refine o_bind ?_; intro p3 hp3
      refine o_bind ?_; intro x4 hx4
      refine f_op rfl rfl (s_callA happ rfl hp3) ?_
      refine o_know 52 rfl (asB_eq hx4) ?_
      refine f_op rfl rfl (s_pickT (v := .bool x4) rfl rfl) ?_
      refine f_op rfl rfl (s_as (v := .bool x4) rfl) ?_
      refine f_nil ?_
      exact f_ret (.tmp rfl (.nil)) rfl
    · skip
      refine o_know 47 rfl (dec_false h2) ?_
      refine f_op rfl rfl (s_mv (v := .int .i64 v7) rfl) ?_
      refine f_op rfl rfl (s_eql rfl rfl) ?_
      refine f_op rfl rfl (s_pickF (v := .bool (decide (v7 = 2))) rfl rfl) ?_
      refine f_op rfl rfl (s_mv (v := .bool (decide (v7 = 2))) rfl) ?_
      refine o_if (fun h5 => ?_) (fun h5 => ?_)
      · skip
        refine o_know 51 rfl (dec_true h5) ?_
        refine o_bind ?_; intro p6 hp6
        refine o_bind ?_; intro x7 hx7
        refine f_op rfl rfl (s_callA happ rfl hp6) ?_
        refine o_know 52 rfl (asB_eq hx7) ?_
        refine f_op rfl rfl (s_pickT (v := .bool x7) rfl rfl) ?_
        refine f_op rfl rfl (s_as (v := .bool x7) rfl) ?_
        refine f_nil ?_
        exact f_ret (.tmp rfl (.nil)) rfl
      · skip
        refine o_know 51 rfl (dec_false h5) ?_
        refine f_no rfl rfl ?_
        refine f_op rfl rfl (s_pickF (v := .bool false) rfl rfl) ?_
        refine f_op rfl rfl (s_as (v := .bool false) rfl) ?_
        refine f_nil ?_
        exact f_ret (.tmp rfl (.nil)) rfl
  · skip
    refine f_know 44 rfl (bool_F h1) ?_
    refine f_condF rfl ?_
    refine f_skip ?_
    refine f_seq ?_
    refine f_seq ?_
    refine f_region ?_
    refine f_op rfl rfl (s_fieldAddr Try.underlying23 rfl ty3 rfl) ?_
    refine o_bind ?_; intro x8 hx8
    refine f_op rfl rfl (s_load Try.underlying3 rfl rfl (ldI_eq hx8)) ?_
    refine f_op rfl rfl (s_lss rfl rfl) ?_
    refine f_op rfl rfl (s_mv (v := .bool (decide (x8 < 1))) rfl) ?_
    refine o_if (fun h9 => ?_) (fun h9 => ?_)
    · skip
      refine o_know 57 rfl (dec_true h9) ?_
      refine f_no rfl rfl ?_
      refine f_no rfl rfl ?_
      refine f_no rfl rfl ?_
      refine f_op rfl rfl (s_pickT (v := .bool true) rfl rfl) ?_
      refine f_op rfl rfl (s_mv (v := .bool true) rfl) ?_
      refine f_no rfl rfl ?_
      refine f_no rfl rfl ?_
      refine f_no rfl rfl ?_
      refine f_op rfl rfl (s_pickT (v := .bool true) rfl rfl) ?_
      refine f_op rfl rfl (s_mv (v := .bool true) rfl) ?_
      refine f_no rfl rfl ?_
      refine f_no rfl rfl ?_
      refine f_no rfl rfl ?_
      refine f_no rfl rfl ?_
      refine f_no rfl rfl ?_
      refine f_op rfl rfl (s_pickT (v := .bool true) rfl rfl) ?_
      refine f_op rfl rfl (s_mv (v := .bool true) rfl) ?_
      refine f_no rfl rfl ?_
      refine f_no rfl rfl ?_
      refine f_no rfl rfl ?_
      refine f_op rfl rfl (s_pickT (v := .bool true) rfl rfl) ?_
      refine f_op rfl rfl (s_mv (v := .bool true) rfl) ?_
      refine f_no rfl rfl ?_
      refine f_no rfl rfl ?_
      refine f_no rfl rfl ?_
      refine f_op rfl rfl (s_pickT (v := .bool true) rfl rfl) ?_
      refine f_op rfl rfl (s_mv (v := .bool true) rfl) ?_
      refine f_no rfl rfl ?_
      refine f_no rfl rfl ?_
      refine f_no rfl rfl ?_
      refine f_op rfl rfl (s_pickT (v := .bool true) rfl rfl) ?_
      refine f_op rfl rfl (s_mv (v := .bool true) rfl) ?_
      refine f_no rfl rfl ?_
      refine f_no rfl rfl ?_
      refine f_no rfl rfl ?_
      refine f_no rfl rfl ?_
      refine f_no rfl rfl ?_
      refine f_op rfl rfl (s_pickT (v := .bool true) rfl rfl) ?_
      refine f_op rfl rfl (s_mv (v := .bool true) rfl) ?_
      refine f_no rfl rfl ?_
      refine f_no rfl rfl ?_
      refine f_no rfl rfl ?_
      refine f_no rfl rfl ?_
      refine f_no rfl rfl ?_
      refine f_no rfl rfl ?_
      refine f_no rfl rfl ?_
      refine f_no rfl rfl ?_
      refine f_op rfl rfl (s_pickT (v := .bool true) rfl rfl) ?_
      refine f_op rfl rfl (s_mv (v := .bool true) rfl) ?_
      refine f_no rfl rfl ?_
      refine f_no rfl rfl ?_
      refine f_no rfl rfl ?_
      refine f_no rfl rfl ?_
      refine f_no rfl rfl ?_
      refine f_no rfl rfl ?_
      refine f_no rfl rfl ?_
      refine f_no rfl rfl ?_
      refine f_op rfl rfl (s_pickT (v := .bool true) rfl rfl) ?_
      refine f_nil ?_
      refine f_keep [0, 1, 2, 7, 9, 115] ?_
      exact s4_j1 happ v1 v2 v3 v4 v6 true H
    · skip
      refine o_know 57 rfl (dec_false h9) ?_
      refine f_op rfl rfl (s_fieldAddr Try.underlying23 rfl ty3 rfl) ?_
      refine o_bind ?_; intro x10 hx10
      refine f_op rfl rfl (s_load Try.underlying3 rfl rfl (ldI_eq hx10)) ?_
      refine f_op rfl rfl (s_gtr rfl rfl) ?_
      refine f_op rfl rfl (s_pickF (v := .bool (decide (1000000000 < x10))) rfl rfl) ?_
      refine f_op rfl rfl (s_mv (v := .bool (decide (1000000000 < x10))) rfl) ?_
      refine o_if (fun h11 => ?_) (fun h11 => ?_)
      · skip
        refine o_know 62 rfl (dec_true h11) ?_
        refine f_no rfl rfl ?_
        refine f_no rfl rfl ?_
        refine f_no rfl rfl ?_
        refine f_op rfl rfl (s_pickT (v := .bool true) rfl rfl) ?_
        refine f_op rfl rfl (s_mv (v := .bool true) rfl) ?_
        refine f_no rfl rfl ?_
        refine f_no rfl rfl ?_
        refine f_no rfl rfl ?_
        refine f_no rfl rfl ?_
        refine f_no rfl rfl ?_
        refine f_op rfl rfl (s_pickT (v := .bool true) rfl rfl) ?_
        refine f_op rfl rfl (s_mv (v := .bool true) rfl) ?_
        refine f_no rfl rfl ?_
        refine f_no rfl rfl ?_
        refine f_no rfl rfl ?_
        refine f_op rfl rfl (s_pickT (v := .bool true) rfl rfl) ?_
        refine f_op rfl rfl (s_mv (v := .bool true) rfl) ?_
        refine f_no rfl rfl ?_
        refine f_no rfl rfl ?_
        refine f_no rfl rfl ?_
        refine f_op rfl rfl (s_pickT (v := .bool true) rfl rfl) ?_
        refine f_op rfl rfl (s_mv (v := .bool true) rfl) ?_
        refine f_no rfl rfl ?_
        refine f_no rfl rfl ?_
        refine f_no rfl rfl ?_
        refine f_op rfl rfl (s_pickT (v := .bool true) rfl rfl) ?_
        refine f_op rfl rfl (s_mv (v := .bool true) rfl) ?_
        refine f_no rfl rfl ?_
        refine f_no rfl rfl ?_
        refine f_no rfl rfl ?_
        refine f_no rfl rfl ?_
        refine f_no rfl rfl ?_
        refine f_op rfl rfl (s_pickT (v := .bool true) rfl rfl) ?_
        refine f_op rfl rfl (s_mv (v := .bool true) rfl) ?_
        refine f_no rfl rfl ?_
        refine f_no rfl rfl ?_
        refine f_no rfl rfl ?_
        refine f_no rfl rfl ?_
        refine f_no rfl rfl ?_
        refine f_no rfl rfl ?_
        refine f_no rfl rfl ?_
        refine f_no rfl rfl ?_
        refine f_op rfl rfl (s_pickT (v := .bool true) rfl rfl) ?_
        refine f_op rfl rfl (s_mv (v := .bool true) rfl) ?_
        refine f_no rfl rfl ?_
        refine f_no rfl rfl ?_
        refine f_no rfl rfl ?_
        refine f_no rfl rfl ?_
        refine f_no rfl rfl ?_
        refine f_no rfl rfl ?_
        refine f_no rfl rfl ?_
        refine f_no rfl rfl ?_
        refine f_op rfl rfl (s_pickT (v := .bool true) rfl rfl) ?_
        refine f_nil ?_
        refine f_keep [0, 1, 2, 7, 9, 115] ?_
        exact s4_j1 happ v1 v2 v3 v4 v6 true H
      · skip
        refine o_know 62 rfl (dec_false h11) ?_
        refine f_op rfl rfl (s_fieldAddr Try.underlying23 rfl ty3 rfl) ?_
        refine o_bind ?_; intro x12 hx12
        refine f_op rfl rfl (s_load Try.underlying3 rfl rfl (ldI_eq hx12)) ?_
        refine f_op rfl rfl (s_lss rfl rfl) ?_
        refine f_op rfl rfl (s_pickF (v := .bool (decide (x12 < 0))) rfl rfl) ?_
        refine f_op rfl rfl (s_mv (v := .bool (decide (x12 < 0))) rfl) ?_
        refine o_if (fun h13 => ?_) (fun h13 => ?_)
        · skip
          refine o_know 67 rfl (dec_true h13) ?_
          refine f_no rfl rfl ?_
          refine f_no rfl rfl ?_
          refine f_no rfl rfl ?_
          refine f_no rfl rfl ?_
          refine f_no rfl rfl ?_
          refine f_op rfl rfl (s_pickT (v := .bool true) rfl rfl) ?_
          refine f_op rfl rfl (s_mv (v := .bool true) rfl) ?_
          refine f_no rfl rfl ?_
          refine f_no rfl rfl ?_
          refine f_no rfl rfl ?_
          refine f_op rfl rfl (s_pickT (v := .bool true) rfl rfl) ?_
          refine f_op rfl rfl (s_mv (v := .bool true) rfl) ?_
          refine f_no rfl rfl ?_
          refine f_no rfl rfl ?_
          refine f_no rfl rfl ?_
          refine f_op rfl rfl (s_pickT (v := .bool true) rfl rfl) ?_
          refine f_op rfl rfl (s_mv (v := .bool true) rfl) ?_
          refine f_no rfl rfl ?_
          refine f_no rfl rfl ?_
          refine f_no rfl rfl ?_
          refine f_op rfl rfl (s_pickT (v := .bool true) rfl rfl) ?_
          refine f_op rfl rfl (s_mv (v := .bool true) rfl) ?_
          refine f_no rfl rfl ?_
          refine f_no rfl rfl ?_
          refine f_no rfl rfl ?_
          refine f_no rfl rfl ?_
          refine f_no rfl rfl ?_
          refine f_op rfl rfl (s_pickT (v := .bool true) rfl rfl) ?_
          refine f_op rfl rfl (s_mv (v := .bool true) rfl) ?_
          refine f_no rfl rfl ?_
          refine f_no rfl rfl ?_
          refine f_no rfl rfl ?_
          refine f_no rfl rfl ?_
          refine f_no rfl rfl ?_
          refine f_no rfl rfl ?_
          refine f_no rfl rfl ?_
          refine f_no rfl rfl ?_
          refine f_op rfl rfl (s_pickT (v := .bool true) rfl rfl) ?_
          refine f_op rfl rfl (s_mv (v := .bool true) rfl) ?_
          refine f_no rfl rfl ?_
          refine f_no rfl rfl ?_
          refine f_no rfl rfl ?_
          refine f_no rfl rfl ?_
          refine f_no rfl rfl ?_
          refine f_no rfl rfl ?_
          refine f_no rfl rfl ?_
          refine f_no rfl rfl ?_
          refine f_op rfl rfl (s_pickT (v := .bool true) rfl rfl) ?_
          refine f_nil ?_
          refine f_keep [0, 1, 2, 7, 9, 115] ?_
          exact s4_j1 happ v1 v2 v3 v4 v6 true H
        · skip
          refine o_know 67 rfl (dec_false h13) ?_
          refine f_op rfl rfl (s_fieldAddr Try.underlying23 rfl ty3 rfl) ?_
          refine o_bind ?_; intro x14 hx14
          refine f_op rfl rfl (s_load Try.underlying3 rfl rfl (ldI_eq hx14)) ?_
          refine f_op rfl rfl (s_fieldAddr Try.underlying23 rfl ty3 rfl) ?_
          refine o_bind ?_; intro x15 hx15
          refine f_op rfl rfl (s_load Try.underlying3 rfl rfl (ldI_eq hx15)) ?_
          refine f_op rfl rfl (s_gtr rfl rfl) ?_
          refine f_op rfl rfl (s_pickF (v := .bool (decide (x15 < x14))) rfl rfl) ?_
          refine f_op rfl rfl (s_mv (v := .bool (decide (x15 < x14))) rfl) ?_
          refine o_if (fun h16 => ?_) (fun h16 => ?_)
          · skip
            refine o_know 74 rfl (dec_true h16) ?_
            refine f_no rfl rfl ?_
            refine f_no rfl rfl ?_
            refine f_no rfl rfl ?_
            refine f_op rfl rfl (s_pickT (v := .bool true) rfl rfl) ?_
            refine f_op rfl rfl (s_mv (v := .bool true) rfl) ?_
            refine f_no rfl rfl ?_
            refine f_no rfl rfl ?_
            refine f_no rfl rfl ?_
            refine f_op rfl rfl (s_pickT (v := .bool true) rfl rfl) ?_
            refine f_op rfl rfl (s_mv (v := .bool true) rfl) ?_
            refine f_no rfl rfl ?_
            refine f_no rfl rfl ?_
            refine f_no rfl rfl ?_
            refine f_op rfl rfl (s_pickT (v := .bool true) rfl rfl) ?_
            refine f_op rfl rfl (s_mv (v := .bool true) rfl) ?_
            refine f_no rfl rfl ?_
            refine f_no rfl rfl ?_
            refine f_no rfl rfl ?_
            refine f_no rfl rfl ?_
            refine f_no rfl rfl ?_
            refine f_op rfl rfl (s_pickT (v := .bool true) rfl rfl) ?_
            refine f_op rfl rfl (s_mv (v := .bool true) rfl) ?_
            refine f_no rfl rfl ?_
            refine f_no rfl rfl ?_
            refine f_no rfl rfl ?_
            refine f_no rfl rfl ?_
            refine f_no rfl rfl ?_
            refine f_no rfl rfl ?_
            refine f_no rfl rfl ?_
            refine f_no rfl rfl ?_
            refine f_op rfl rfl (s_pickT (v := .bool true) rfl rfl) ?_
            refine f_op rfl rfl (s_mv (v := .bool true) rfl) ?_
            refine f_no rfl rfl ?_
            refine f_no rfl rfl ?_
            refine f_no rfl rfl ?_
            refine f_no rfl rfl ?_
            refine f_no rfl rfl ?_
            refine f_no rfl rfl ?_
            refine f_no rfl rfl ?_
            refine f_no rfl rfl ?_
            refine f_op rfl rfl (s_pickT (v := .bool true) rfl rfl) ?_
            refine f_nil ?_
            refine f_keep [0, 1, 2, 7, 9, 115] ?_
            exact s4_j1 happ v1 v2 v3 v4 v6 true H
          · skip
            refine o_know 74 rfl (dec_false h16) ?_
            refine f_op rfl rfl (s_fieldAddr Try.underlying23 rfl ty3 rfl) ?_
            refine o_bind ?_; intro x17 hx17
            refine f_op rfl rfl (s_load Try.underlying3 rfl rfl (ldI_eq hx17)) ?_
            refine f_op rfl rfl (s_lss rfl rfl) ?_
            refine f_op rfl rfl (s_pickF (v := .bool (decide (x17 < 1))) rfl rfl) ?_
            refine f_op rfl rfl (s_mv (v := .bool (decide (x17 < 1))) rfl) ?_
            refine o_if (fun h18 => ?_) (fun h18 => ?_)
            · skip
              refine o_know 79 rfl (dec_true h18) ?_
              refine f_no rfl rfl ?_
              refine f_no rfl rfl ?_
              refine f_no rfl rfl ?_
              refine f_op rfl rfl (s_pickT (v := .bool true) rfl rfl) ?_
              refine f_op rfl rfl (s_mv (v := .bool true) rfl) ?_
              refine f_no rfl rfl ?_
              refine f_no rfl rfl ?_
              refine f_no rfl rfl ?_
              refine f_op rfl rfl (s_pickT (v := .bool true) rfl rfl) ?_
              refine f_op rfl rfl (s_mv (v := .bool true) rfl) ?_
              refine f_no rfl rfl ?_
              refine f_no rfl rfl ?_
              refine f_no rfl rfl ?_
              refine f_no rfl rfl ?_
              refine f_no rfl rfl ?_
              refine f_op rfl rfl (s_pickT (v := .bool true) rfl rfl) ?_
              refine f_op rfl rfl (s_mv (v := .bool true) rfl) ?_
              refine f_no rfl rfl ?_
              refine f_no rfl rfl ?_
              refine f_no rfl rfl ?_
              refine f_no rfl rfl ?_
              refine f_no rfl rfl ?_
              refine f_no rfl rfl ?_
              refine f_no rfl rfl ?_
              refine f_no rfl rfl ?_
              refine f_op rfl rfl (s_pickT (v := .bool true) rfl rfl) ?_
              refine f_op rfl rfl (s_mv (v := .bool true) rfl) ?_
              refine f_no rfl rfl ?_
              refine f_no rfl rfl ?_
              refine f_no rfl rfl ?_
              refine f_no rfl rfl ?_
              refine f_no rfl rfl ?_
              refine f_no rfl rfl ?_
              refine f_no rfl rfl ?_
              refine f_no rfl rfl ?_
              refine f_op rfl rfl (s_pickT (v := .bool true) rfl rfl) ?_
              refine f_nil ?_
              refine f_keep [0, 1, 2, 7, 9, 115] ?_
              exact s4_j1 happ v1 v2 v3 v4 v6 true H
            · skip
              refine o_know 79 rfl (dec_false h18) ?_
              refine f_op rfl rfl (s_fieldAddr Try.underlying23 rfl ty3 rfl) ?_
              refine o_bind ?_; intro x19 hx19
              refine f_op rfl rfl (s_load Try.underlying3 rfl rfl (ldI_eq hx19)) ?_
              refine f_op rfl rfl (s_gtr rfl rfl) ?_
              refine f_op rfl rfl (s_pickF (v := .bool (decide (100 < x19))) rfl rfl) ?_
              refine f_op rfl rfl (s_mv (v := .bool (decide (100 < x19))) rfl) ?_
              refine o_if (fun h20 => ?_) (fun h20 => ?_)
              · skip
                refine o_know 84 rfl (dec_true h20) ?_
                refine f_no rfl rfl ?_
                refine f_no rfl rfl ?_
                refine f_no rfl rfl ?_
                refine f_op rfl rfl (s_pickT (v := .bool true) rfl rfl) ?_
                refine f_op rfl rfl (s_mv (v := .bool true) rfl) ?_
                refine f_no rfl rfl ?_
                refine f_no rfl rfl ?_
                refine f_no rfl rfl ?_
                refine f_no rfl rfl ?_
                refine f_no rfl rfl ?_
                refine f_op rfl rfl (s_pickT (v := .bool true) rfl rfl) ?_
                refine f_op rfl rfl (s_mv (v := .bool true) rfl) ?_
                refine f_no rfl rfl ?_
                refine f_no rfl rfl ?_
                refine f_no rfl rfl ?_
                refine f_no rfl rfl ?_
                refine f_no rfl rfl ?_
                refine f_no rfl rfl ?_
                refine f_no rfl rfl ?_
                refine f_no rfl rfl ?_
                refine f_op rfl rfl (s_pickT (v := .bool true) rfl rfl) ?_
                refine f_op rfl rfl (s_mv (v := .bool true) rfl) ?_
                refine f_no rfl rfl ?_
                refine f_no rfl rfl ?_
                refine f_no rfl rfl ?_
                refine f_no rfl rfl ?_
                refine f_no rfl rfl ?_
                refine f_no rfl rfl ?_
                refine f_no rfl rfl ?_
                refine f_no rfl rfl ?_
                refine f_op rfl rfl (s_pickT (v := .bool true) rfl rfl) ?_
                refine f_nil ?_
                refine f_keep [0, 1, 2, 7, 9, 115] ?_
                exact s4_j1 happ v1 v2 v3 v4 v6 true H
              · skip
                refine o_know 84 rfl (dec_false h20) ?_
                refine f_op rfl rfl (s_fieldAddr Try.underlying23 rfl ty3 rfl) ?_
                refine o_bind ?_; intro x21 hx21
                refine f_op rfl rfl (s_load Try.underlying3 rfl rfl (ldI_eq hx21)) ?_
                refine f_op rfl rfl (s_lss rfl rfl) ?_
                refine f_op rfl rfl (s_pickF (v := .bool (decide (x21 < 0))) rfl rfl) ?_
                refine f_op rfl rfl (s_mv (v := .bool (decide (x21 < 0))) rfl) ?_
                refine o_if (fun h22 => ?_) (fun h22 => ?_)
                · skip
                  refine o_know 89 rfl (dec_true h22) ?_
                  refine f_no rfl rfl ?_
                  refine f_no rfl rfl ?_
                  refine f_no rfl rfl ?_
                  refine f_no rfl rfl ?_
                  refine f_no rfl rfl ?_
                  refine f_op rfl rfl (s_pickT (v := .bool true) rfl rfl) ?_
                  refine f_op rfl rfl (s_mv (v := .bool true) rfl) ?_
                  refine f_no rfl rfl ?_
                  refine f_no rfl rfl ?_
                  refine f_no rfl rfl ?_
                  refine f_no rfl rfl ?_
                  refine f_no rfl rfl ?_
                  refine f_no rfl rfl ?_
                  refine f_no rfl rfl ?_
                  refine f_no rfl rfl ?_
                  refine f_op rfl rfl (s_pickT (v := .bool true) rfl rfl) ?_
                  refine f_op rfl rfl (s_mv (v := .bool true) rfl) ?_
                  refine f_no rfl rfl ?_
                  refine f_no rfl rfl ?_
                  refine f_no rfl rfl ?_
                  refine f_no rfl rfl ?_
                  refine f_no rfl rfl ?_
                  refine f_no rfl rfl ?_
                  refine f_no rfl rfl ?_
                  refine f_no rfl rfl ?_
                  refine f_op rfl rfl (s_pickT (v := .bool true) rfl rfl) ?_
                  refine f_nil ?_
                  refine f_keep [0, 1, 2, 7, 9, 115] ?_
                  exact s4_j1 happ v1 v2 v3 v4 v6 true H
                · skip
                  refine o_know 89 rfl (dec_false h22) ?_
                  refine f_op rfl rfl (s_fieldAddr Try.underlying23 rfl ty3 rfl) ?_
                  refine o_bind ?_; intro x23 hx23
                  refine f_op rfl rfl (s_load Try.underlying3 rfl rfl (ldI_eq hx23)) ?_
                  refine f_op rfl rfl (s_fieldAddr Try.underlying23 rfl ty3 rfl) ?_
                  refine o_bind ?_; intro x24 hx24
                  refine f_op rfl rfl (s_load Try.underlying3 rfl rfl (ldI_eq hx24)) ?_
                  refine f_op rfl rfl (s_gtr rfl rfl) ?_
                  refine f_op rfl rfl (s_pickF (v := .bool (decide (x24 < x23))) rfl rfl) ?_
                  refine f_op rfl rfl (s_mv (v := .bool (decide (x24 < x23))) rfl) ?_
                  refine o_if (fun h25 => ?_) (fun h25 => ?_)
                  · skip
                    refine o_know 96 rfl (dec_true h25) ?_
                    refine f_no rfl rfl ?_
                    refine f_no rfl rfl ?_
                    refine f_no rfl rfl ?_
                    refine f_no rfl rfl ?_
                    refine f_no rfl rfl ?_
                    refine f_no rfl rfl ?_
                    refine f_no rfl rfl ?_
                    refine f_no rfl rfl ?_
                    refine f_op rfl rfl (s_pickT (v := .bool true) rfl rfl) ?_
                    refine f_op rfl rfl (s_mv (v := .bool true) rfl) ?_
                    refine f_no rfl rfl ?_
                    refine f_no rfl rfl ?_
                    refine f_no rfl rfl ?_
                    refine f_no rfl rfl ?_
                    refine f_no rfl rfl ?_
                    refine f_no rfl rfl ?_
                    refine f_no rfl rfl ?_
                    refine f_no rfl rfl ?_
                    refine f_op rfl rfl (s_pickT (v := .bool true) rfl rfl) ?_
                    refine f_nil ?_
                    refine f_keep [0, 1, 2, 7, 9, 115] ?_
                    exact s4_j1 happ v1 v2 v3 v4 v6 true H
                  · skip
                    refine o_know 96 rfl (dec_false h25) ?_
                    refine f_op rfl rfl (s_mv (v := .int .i64 v1) rfl) ?_
                    refine f_op rfl rfl (s_rem rfl rfl (by decide)) ?_
                    refine f_op rfl rfl (s_eql rfl rfl) ?_
                    refine f_op rfl rfl (s_mv (v := .bool (decide ((Int.tmod v1 2) = 0))) rfl) ?_
                    refine o_if (fun h26 => ?_) (fun h26 => ?_)
                    · skip
                      refine o_know 100 rfl (dec_true h26) ?_
                      refine o_bind ?_; intro x27 hx27
                      refine o_bind ?_; intro x28 hx28
                      refine f_op rfl rfl (s_loads Try.underlying23 rfl ty23 rfl (lds_cons (ldI_eq hx27) (lds_cons (ldI_eq hx28) (lds_nil)))) ?_
                      refine o_bind ?_; intro x29 hx29
                      refine o_bind ?_; intro x30 hx30
                      refine f_op rfl rfl (s_loads Try.underlying23 rfl ty23 rfl (lds_cons (ldI_eq hx29) (lds_cons (ldI_eq hx30) (lds_nil)))) ?_
                      refine o_bind ?_; intro p31 hp31
                      refine f_op rfl rfl (s_callO rfl ok22 (sim22 hp31) rfl rfl) ?_
                      refine f_op rfl rfl (s_pickT (v := .bool p31.1) rfl rfl) ?_
                      refine f_op rfl rfl (s_pickF (v := .bool p31.1) rfl rfl) ?_
                      refine f_op rfl rfl (s_mv (v := .bool p31.1) rfl) ?_
                      refine o_if (fun h32 => ?_) (fun h32 => ?_)
                      · skip
                        refine o_know 106 rfl (bool_T h32) ?_
                        refine f_no rfl rfl ?_
                        refine f_no rfl rfl ?_
                        refine f_no rfl rfl ?_
                        refine f_no rfl rfl ?_
                        refine f_no rfl rfl ?_
                        refine f_no rfl rfl ?_
                        refine f_no rfl rfl ?_
                        refine f_no rfl rfl ?_
                        refine f_op rfl rfl (s_pickT (v := .bool true) rfl rfl) ?_
                        refine f_nil ?_
                        refine f_keep [0, 1, 2, 7, 9, 115] ?_
                        exact s4_j1 happ v1 v2 v3 v4 v6 true H
                      · skip
                        refine o_know 106 rfl (bool_F h32) ?_
                        refine f_op rfl rfl (s_mv (v := .int .i64 v1) rfl) ?_
                        refine f_op rfl rfl (s_rem rfl rfl (by decide)) ?_
                        refine f_op rfl rfl (s_eql rfl rfl) ?_
                        refine f_op rfl rfl (s_mv (v := .bool (decide ((Int.tmod v1 2) = 1))) rfl) ?_
                        refine o_if (fun h33 => ?_) (fun h33 => ?_)
                        · skip
                          refine o_know 110 rfl (dec_true h33) ?_
                          refine o_bind ?_; intro x34 hx34
                          refine o_bind ?_; intro x35 hx35
                          refine f_op rfl rfl (s_loads Try.underlying23 rfl ty23 rfl (lds_cons (ldI_eq hx34) (lds_cons (ldI_eq hx35) (lds_nil)))) ?_
                          refine o_bind ?_; intro x36 hx36
                          refine o_bind ?_; intro x37 hx37
                          refine f_op rfl rfl (s_loads Try.underlying23 rfl ty23 rfl (lds_cons (ldI_eq hx36) (lds_cons (ldI_eq hx37) (lds_nil)))) ?_
                          refine o_bind ?_; intro p38 hp38
                          refine f_op rfl rfl (s_callO rfl ok22 (sim22 hp38) rfl rfl) ?_
                          refine f_op rfl rfl (s_pickT (v := .bool p38.1) rfl rfl) ?_
                          refine f_op rfl rfl (s_pickF (v := .bool p38.1) rfl rfl) ?_
                          refine f_nil ?_
                          refine f_keep [0, 1, 2, 7, 9, 115] ?_
                          exact s4_j1 happ v1 v2 v3 v4 v6 p38.1 H
                        · skip
                          refine o_know 110 rfl (dec_false h33) ?_
                          refine f_no rfl rfl ?_
                          refine f_no rfl rfl ?_
                          refine f_no rfl rfl ?_
                          refine f_op rfl rfl (s_pickF (v := .bool false) rfl rfl) ?_
                          refine f_op rfl rfl (s_pickF (v := .bool false) rfl rfl) ?_
                          refine f_nil ?_
                          refine f_keep [0, 1, 2, 7, 9, 115] ?_
                          exact s4_j1 happ v1 v2 v3 v4 v6 false H
                    · skip
                      refine o_know 100 rfl (dec_false h26) ?_
                      refine f_no rfl rfl ?_
                      refine f_no rfl rfl ?_
                      refine f_no rfl rfl ?_
                      refine f_op rfl rfl (s_pickF (v := .bool false) rfl rfl) ?_
                      refine f_op rfl rfl (s_pickF (v := .bool false) rfl rfl) ?_
                      refine f_op rfl rfl (s_mv (v := .bool false) rfl) ?_
                      refine f_op rfl rfl (s_mv (v := .int .i64 v1) rfl) ?_
                      refine f_op rfl rfl (s_rem rfl rfl (by decide)) ?_
                      refine f_op rfl rfl (s_eql rfl rfl) ?_
                      refine f_op rfl rfl (s_mv (v := .bool (decide ((Int.tmod v1 2) = 1))) rfl) ?_
                      refine o_if (fun h39 => ?_) (fun h39 => ?_)
                      · skip
                        refine o_know 110 rfl (dec_true h39) ?_
                        refine o_bind ?_; intro x40 hx40
                        refine o_bind ?_; intro x41 hx41
                        refine f_op rfl rfl (s_loads Try.underlying23 rfl ty23 rfl (lds_cons (ldI_eq hx40) (lds_cons (ldI_eq hx41) (lds_nil)))) ?_
                        refine o_bind ?_; intro x42 hx42
                        refine o_bind ?_; intro x43 hx43
                        refine f_op rfl rfl (s_loads Try.underlying23 rfl ty23 rfl (lds_cons (ldI_eq hx42) (lds_cons (ldI_eq hx43) (lds_nil)))) ?_
                        refine o_bind ?_; intro p44 hp44
                        refine f_op rfl rfl (s_callO rfl ok22 (sim22 hp44) rfl rfl) ?_
                        refine f_op rfl rfl (s_pickT (v := .bool p44.1) rfl rfl) ?_
                        refine f_op rfl rfl (s_pickF (v := .bool p44.1) rfl rfl) ?_
                        refine f_nil ?_
                        refine f_keep [0, 1, 2, 7, 9, 115] ?_
                        exact s4_j1 happ v1 v2 v3 v4 v6 p44.1 H
                      · skip
                        refine o_know 110 rfl (dec_false h39) ?_
                        refine f_no rfl rfl ?_
                        refine f_no rfl rfl ?_
                        refine f_no rfl rfl ?_
                        refine f_op rfl rfl (s_pickF (v := .bool false) rfl rfl) ?_
                        refine f_op rfl rfl (s_pickF (v := .bool false) rfl rfl) ?_
                        refine f_nil ?_
                        refine f_keep [0, 1, 2, 7, 9, 115] ?_
                        exact s4_j1 happ v1 v2 v3 v4 v6 false H

theorem sim4 {app : App} (happ : AppSim Try.prog app) {a0 : Int} {a1 : Int} {a2 : Int} {H : Hp} {p : Bool × Hp} (h : r4 app a0 a1 a2 H = some p) : CallSim Try.prog 4 [.int .i64 a0, .int .i64 a1, .int .i64 a2] H (.bool p.1) p.2 := by
  refine callSim (fn := Try.f4) (ret := ret4) Try.func4 rfl Try.ntmps4 rfl ?_ h
  unfold r4
  refine f_seq ?_
  refine f_region ?_
  refine f_op rfl rfl (s_as (v := .bool false) rfl) ?_
  refine f_nil ?_
  refine f_seq ?_
  refine f_region ?_
  refine f_op rfl rfl (s_mv (v := .int .i64 a0) rfl) ?_
  refine f_op rfl rfl (s_mv (v := .int .i64 a1) rfl) ?_
  refine f_op rfl rfl (s_mv (v := .int .i64 a2) rfl) ?_
  refine o_bind ?_; intro p1 hp1
  refine f_op rfl rfl (s_callO rfl ok15 (sim15 hp1) rfl rfl) ?_
  refine f_op rfl rfl (s_mv (v := .tup [.agg [.int .i64 p1.1.1, .int .i64 p1.1.2.1], .int .i64 p1.1.2.2]) rfl) ?_
  refine f_op rfl rfl (s_extract (r := .agg [.int .i64 p1.1.1, .int .i64 p1.1.2.1]) rfl rfl) ?_
  refine f_op rfl rfl (s_extract (r := .int .i64 p1.1.2.2) rfl rfl) ?_
  refine f_op rfl rfl (s_alloc (zs := [.int .i64 0, .int .i64 0]) ty23 rfl rfl) ?_
  refine o_bind ?_; intro H2 hH2
  refine f_op rfl rfl (s_stores ty23 rfl rfl rfl rfl hH2 (Nat.le_of_eq (sts_mono hH2).symm)) ?_
  refine f_op rfl rfl (s_as (v := .int .i64 p1.1.2.2) rfl) ?_
  refine f_nil ?_
  refine f_seq ?_
  refine f_region ?_
  refine f_op rfl rfl (s_mv (v := .int .i64 a1) rfl) ?_
  refine f_op rfl rfl (s_mv (v := .int .i64 a2) rfl) ?_
  refine o_bind ?_; intro p3 hp3
  refine f_op rfl rfl (s_callO rfl ok16 (sim16 hp3) rfl rfl) ?_
  refine f_op rfl rfl (s_mv (v := .tup [.agg [.int .i64 p3.1.1, .int .i64 p3.1.2.1], .int .i64 p3.1.2.2]) rfl) ?_
  refine f_op rfl rfl (s_extract (r := .agg [.int .i64 p3.1.1, .int .i64 p3.1.2.1]) rfl rfl) ?_
  refine f_op rfl rfl (s_extract (r := .int .i64 p3.1.2.2) rfl rfl) ?_
  refine f_op rfl rfl (s_alloc (zs := [.int .i64 0, .int .i64 0]) ty23 rfl rfl) ?_
  refine o_bind ?_; intro H4 hH4
  refine f_op rfl rfl (s_stores ty23 rfl rfl rfl rfl hH4 (Nat.le_of_eq (sts_mono hH4).symm)) ?_
  refine f_op rfl rfl (s_as (v := .int .i64 p3.1.2.2) rfl) ?_
  refine f_nil ?_
  refine f_seq ?_
  refine f_seq ?_
  refine f_region ?_
  refine f_op rfl rfl (s_mv (v := .int .i64 p1.1.2.2) rfl) ?_
  refine f_op rfl rfl (s_neq rfl rfl) ?_
  refine f_op rfl rfl (s_mv (v := .bool (decide (p1.1.2.2 ≠ 0))) rfl) ?_
  refine o_if (fun h5 => ?_) (fun h5 => ?_)
  · skip
    refine o_know 27 rfl (dec_true h5) ?_
    refine f_no rfl rfl ?_
    refine f_no rfl rfl ?_
    refine f_op rfl rfl (s_pickT (v := .bool true) rfl rfl) ?_
    refine f_op rfl rfl (s_mv (v := .bool true) rfl) ?_
    refine f_no rfl rfl ?_
    refine f_no rfl rfl ?_
    refine f_no rfl rfl ?_
    refine f_no rfl rfl ?_
    refine f_op rfl rfl (s_pickT (v := .bool true) rfl rfl) ?_
    refine f_op rfl rfl (s_mv (v := .bool true) rfl) ?_
    refine f_no rfl rfl ?_
    refine f_no rfl rfl ?_
    refine f_op rfl rfl (s_pickT (v := .bool true) rfl rfl) ?_
    refine f_op rfl rfl (s_mv (v := .bool true) rfl) ?_
    refine f_no rfl rfl ?_
    refine f_no rfl rfl ?_
    refine f_op rfl rfl (s_pickT (v := .bool true) rfl rfl) ?_
    refine f_nil ?_
    refine f_keep [0, 1, 2, 7, 8, 9, 10, 44] ?_
    exact s4_j0 happ a0 a1 a2 H.n p1.1.2.2 H2.n p3.1.2.2 true H4
  · skip
    refine o_know 27 rfl (dec_false h5) ?_
    refine f_op rfl rfl (s_mv (v := .int .i64 p3.1.2.2) rfl) ?_
    refine f_op rfl rfl (s_neq rfl rfl) ?_
    refine f_op rfl rfl (s_pickF (v := .bool (decide (p3.1.2.2 ≠ 0))) rfl rfl) ?_
    refine f_op rfl rfl (s_mv (v := .bool (decide (p3.1.2.2 ≠ 0))) rfl) ?_
    refine o_if (fun h6 => ?_) (fun h6 => ?_)
    · skip
      refine o_know 31 rfl (dec_true h6) ?_
      refine f_no rfl rfl ?_
      refine f_no rfl rfl ?_
      refine f_no rfl rfl ?_
      refine f_no rfl rfl ?_
      refine f_op rfl rfl (s_pickT (v := .bool true) rfl rfl) ?_
      refine f_op rfl rfl (s_mv (v := .bool true) rfl) ?_
      refine f_no rfl rfl ?_
      refine f_no rfl rfl ?_
      refine f_op rfl rfl (s_pickT (v := .bool true) rfl rfl) ?_
      refine f_op rfl rfl (s_mv (v := .bool true) rfl) ?_
      refine f_no rfl rfl ?_
      refine f_no rfl rfl ?_
      refine f_op rfl rfl (s_pickT (v := .bool true) rfl rfl) ?_
      refine f_nil ?_
      refine f_keep [0, 1, 2, 7, 8, 9, 10, 44] ?_
      exact s4_j0 happ a0 a1 a2 H.n p1.1.2.2 H2.n p3.1.2.2 true H4
    · skip
      refine o_know 31 rfl (dec_false h6) ?_
      refine f_op rfl rfl (s_mv (v := .int .i64 a1) rfl) ?_
      refine f_op rfl rfl (s_mv (v := .int .i64 a2) rfl) ?_
      refine o_bind ?_; intro p7 hp7
      refine f_op rfl rfl (s_callO rfl ok17 (sim17 hp7) rfl rfl) ?_
      refine f_op rfl rfl (s_not rfl) ?_
      refine f_op rfl rfl (s_pickF (v := .bool (!p7.1)) rfl rfl) ?_
      refine f_op rfl rfl (s_mv (v := .bool (!p7.1)) rfl) ?_
      refine o_if (fun h8 => ?_) (fun h8 => ?_)
      · skip
        refine o_know 37 rfl (bool_notT h8) ?_
        refine f_op rfl rfl (s_mv (v := .int .i64 a0) rfl) ?_
        refine f_op rfl rfl (s_lss rfl rfl) ?_
        refine f_op rfl rfl (s_pickF (v := .bool (decide (a0 < 0))) rfl rfl) ?_
        refine f_op rfl rfl (s_mv (v := .bool (decide (a0 < 0))) rfl) ?_
        refine o_if (fun h9 => ?_) (fun h9 => ?_)
        · skip
          refine o_know 41 rfl (dec_true h9) ?_
          refine f_no rfl rfl ?_
          refine f_no rfl rfl ?_
          refine f_op rfl rfl (s_pickT (v := .bool true) rfl rfl) ?_
          refine f_nil ?_
          refine f_keep [0, 1, 2, 7, 8, 9, 10, 44] ?_
          exact s4_j0 happ a0 a1 a2 H.n p1.1.2.2 H2.n p3.1.2.2 true H4
        · skip
          refine o_know 41 rfl (dec_false h9) ?_
          refine f_op rfl rfl (s_mv (v := .int .i64 a0) rfl) ?_
          refine f_op rfl rfl (s_gtr rfl rfl) ?_
          refine f_op rfl rfl (s_pickF (v := .bool (decide (8 < a0))) rfl rfl) ?_
          refine f_nil ?_
          refine f_keep [0, 1, 2, 7, 8, 9, 10, 44] ?_
          exact s4_j0 happ a0 a1 a2 H.n p1.1.2.2 H2.n p3.1.2.2 (decide (8 < a0)) H4
      · skip
        refine o_know 37 rfl (bool_notF h8) ?_
        refine f_no rfl rfl ?_
        refine f_no rfl rfl ?_
        refine f_op rfl rfl (s_pickT (v := .bool true) rfl rfl) ?_
        refine f_op rfl rfl (s_mv (v := .bool true) rfl) ?_
        refine f_no rfl rfl ?_
        refine f_no rfl rfl ?_
        refine f_op rfl rfl (s_pickT (v := .bool true) rfl rfl) ?_
        refine f_nil ?_
        refine f_keep [0, 1, 2, 7, 8, 9, 10, 44] ?_
        exact s4_j0 happ a0 a1 a2 H.n p1.1.2.2 H2.n p3.1.2.2 true H4

end Go.Lt.P5
