/- PRINTED BY A PROGRAM OF OURS: what each function that 'DealsEqual' reaches computes on the abstract heap, and that the translated code does just that. Nothing is asked of the input. -/
import Derived.Test.YtficeemoekikdaaG9P6
set_option linter.unusedVariables false
set_option linter.unusedSimpArgs false
set_option maxRecDepth 100000
set_option maxHeartbeats 4000000
namespace Go.Lt.P5
open Go Go.Lt Go.Proofs
/- 39 congou/congoulaw05.rules -/
theorem ok39 : FnOk Try.prog 39 := ⟨⟨Try.f39, Try.func39, by kernel_rfl, rfl⟩⟩
theorem s39_j0 {app : App} (happ : AppSim Try.prog app) (v1 : Nat) (v2 : Nat) (v3 : Int) (v4 : Nat) (v5 : Nat) (v6 : Nat) (v7 : Bool) (H : Hp) : Fin Try.prog Try.f39 ret39 68 (todoAt (bodyOf Try.f39) [1, 1, 1, 1, 1, 0, 1] []) [(4, .ptr v1 0), (7, .ptr v2 0), (8, .int .i64 v3), (9, .ptr v4 0), (11, .ptr v5 0), (13, .ptr v6 0), (46, .bool v7)] H (r39_j0 app v1 v2 v3 v4 v5 v6 v7 H) := by
  unfold r39_j0
  refine f_if (fun h1 => ?_) (fun h1 => ?_)
  · skip
    refine f_know 46 rfl (bool_T h1) ?_
    refine f_condT rfl ?_
    refine f_seq ?_
    refine f_region ?_
    refine o_bind ?_; intro x2 hx2
    refine o_bind ?_; intro x3 hx3
    refine o_bind ?_; intro x4 hx4
    refine o_bind ?_; intro x5 hx5
    refine o_bind ?_; intro x6 hx6
    refine o_bind ?_; intro x7 hx7
    refine o_bind ?_; intro x8 hx8
    refine o_bind ?_; intro x9 hx9
    refine o_bind ?_; intro x10 hx10
    refine o_bind ?_; intro x11 hx11
    refine o_bind ?_; intro x12 hx12
    refine o_bind ?_; intro x13 hx13
    refine f_op rfl rfl (s_loads Try.underlying55 rfl ty55 rfl (lds_cons (ldI_eq hx2) (lds_cons (ldI_eq hx3) (lds_cons (ldI_eq hx4) (lds_cons (ldI_eq hx5) (lds_cons (ldI_eq hx6) (lds_cons (ldI_eq hx7) (lds_cons (ldI_eq hx8) (lds_cons (ldI_eq hx9) (lds_cons (ldI_eq hx10) (lds_cons (ldI_eq hx11) (lds_cons (ldI_eq hx12) (lds_cons (ldI_eq hx13) (lds_nil)))))))))))))) ?_
    refine o_bind ?_; intro H14 hH14
    refine f_op rfl rfl (s_stores ty55 rfl rfl rfl rfl hH14 (Nat.le_of_eq (sts_mono hH14).symm)) ?_
    refine f_op rfl rfl (s_as (v := .bool false) rfl) ?_
    refine f_op rfl rfl (s_as (v := .bool false) rfl) ?_
    refine f_nil ?_
    refine f_bind ?_; intro x15 hx15
    refine f_bind ?_; intro x16 hx16
    refine f_bind ?_; intro x17 hx17
    refine f_bind ?_; intro x18 hx18
    refine f_bind ?_; intro x19 hx19
    refine f_bind ?_; intro x20 hx20
    refine f_bind ?_; intro x21 hx21
    refine f_bind ?_; intro x22 hx22
    refine f_bind ?_; intro x23 hx23
    refine f_bind ?_; intro x24 hx24
    refine f_bind ?_; intro x25 hx25
    refine f_bind ?_; intro x26 hx26
    exact f_ret (.cells Try.underlying55 rfl sz55 rfl (lds_cons (ldI_eq hx15) (lds_cons (ldI_eq hx16) (lds_cons (ldI_eq hx17) (lds_cons (ldI_eq hx18) (lds_cons (ldI_eq hx19) (lds_cons (ldI_eq hx20) (lds_cons (ldI_eq hx21) (lds_cons (ldI_eq hx22) (lds_cons (ldI_eq hx23) (lds_cons (ldI_eq hx24) (lds_cons (ldI_eq hx25) (lds_cons (ldI_eq hx26) (lds_nil))))))))))))) (.tmp rfl (.tmp rfl (.nil)))) rfl
  · skip
    refine f_know 46 rfl (bool_F h1) ?_
    refine f_condF rfl ?_
    refine f_skip ?_
    refine f_seq ?_
    refine f_seq ?_
    refine f_region ?_
    refine f_op rfl rfl (s_mv (v := .int .i64 v3) rfl) ?_
    refine f_op rfl rfl (s_neq rfl rfl) ?_
    refine f_nil ?_
    refine f_if (fun h27 => ?_) (fun h27 => ?_)
    · skip
      refine f_know 49 rfl (dec_true h27) ?_
      refine f_condT rfl ?_
      refine f_seq ?_
      refine f_region ?_
      refine o_bind ?_; intro x28 hx28
      refine o_bind ?_; intro x29 hx29
      refine o_bind ?_; intro x30 hx30
      refine o_bind ?_; intro x31 hx31
      refine o_bind ?_; intro x32 hx32
      refine o_bind ?_; intro x33 hx33
      refine o_bind ?_; intro x34 hx34
      refine o_bind ?_; intro x35 hx35
      refine o_bind ?_; intro x36 hx36
      refine o_bind ?_; intro x37 hx37
      refine o_bind ?_; intro x38 hx38
      refine o_bind ?_; intro x39 hx39
      refine f_op rfl rfl (s_loads Try.underlying55 rfl ty55 rfl (lds_cons (ldI_eq hx28) (lds_cons (ldI_eq hx29) (lds_cons (ldI_eq hx30) (lds_cons (ldI_eq hx31) (lds_cons (ldI_eq hx32) (lds_cons (ldI_eq hx33) (lds_cons (ldI_eq hx34) (lds_cons (ldI_eq hx35) (lds_cons (ldI_eq hx36) (lds_cons (ldI_eq hx37) (lds_cons (ldI_eq hx38) (lds_cons (ldI_eq hx39) (lds_nil)))))))))))))) ?_
      refine f_op rfl rfl (s_mv (v := .int .i64 v3) rfl) ?_
      refine f_op rfl rfl (s_eql rfl rfl) ?_
      refine f_op rfl rfl (s_mv (v := .bool (decide (v3 = 4))) rfl) ?_
      refine o_if (fun h40 => ?_) (fun h40 => ?_)
      · skip
        refine o_know 53 rfl (dec_true h40) ?_
        refine f_no rfl rfl ?_
        refine f_no rfl rfl ?_
        refine f_op rfl rfl (s_pickT (v := .bool true) rfl rfl) ?_
        refine o_bind ?_; intro H41 hH41
        refine f_op rfl rfl (s_stores ty55 rfl rfl rfl rfl hH41 (Nat.le_of_eq (sts_mono hH41).symm)) ?_
        refine f_op rfl rfl (s_as (v := .bool false) rfl) ?_
        refine f_op rfl rfl (s_as (v := .bool true) rfl) ?_
        refine f_nil ?_
        refine f_bind ?_; intro x42 hx42
        refine f_bind ?_; intro x43 hx43
        refine f_bind ?_; intro x44 hx44
        refine f_bind ?_; intro x45 hx45
        refine f_bind ?_; intro x46 hx46
        refine f_bind ?_; intro x47 hx47
        refine f_bind ?_; intro x48 hx48
        refine f_bind ?_; intro x49 hx49
        refine f_bind ?_; intro x50 hx50
        refine f_bind ?_; intro x51 hx51
        refine f_bind ?_; intro x52 hx52
        refine f_bind ?_; intro x53 hx53
        exact f_ret (.cells Try.underlying55 rfl sz55 rfl (lds_cons (ldI_eq hx42) (lds_cons (ldI_eq hx43) (lds_cons (ldI_eq hx44) (lds_cons (ldI_eq hx45) (lds_cons (ldI_eq hx46) (lds_cons (ldI_eq hx47) (lds_cons (ldI_eq hx48) (lds_cons (ldI_eq hx49) (lds_cons (ldI_eq hx50) (lds_cons (ldI_eq hx51) (lds_cons (ldI_eq hx52) (lds_cons (ldI_eq hx53) (lds_nil))))))))))))) (.tmp rfl (.tmp rfl (.nil)))) rfl
      · skip
        refine o_know 53 rfl (dec_false h40) ?_
        refine f_op rfl rfl (s_mv (v := .int .i64 v3) rfl) ?_
        refine f_op rfl rfl (s_eql rfl rfl) ?_
        refine f_op rfl rfl (s_pickF (v := .bool (decide (v3 = 2))) rfl rfl) ?_
        refine o_bind ?_; intro H54 hH54
        refine f_op rfl rfl (s_stores ty55 rfl rfl rfl rfl hH54 (Nat.le_of_eq (sts_mono hH54).symm)) ?_
        refine f_op rfl rfl (s_as (v := .bool false) rfl) ?_
        refine f_op rfl rfl (s_as (v := .bool (decide (v3 = 2))) rfl) ?_
        refine f_nil ?_
        refine f_bind ?_; intro x55 hx55
        refine f_bind ?_; intro x56 hx56
        refine f_bind ?_; intro x57 hx57
        refine f_bind ?_; intro x58 hx58
        refine f_bind ?_; intro x59 hx59
        refine f_bind ?_; intro x60 hx60
        refine f_bind ?_; intro x61 hx61
        refine f_bind ?_; intro x62 hx62
        refine f_bind ?_; intro x63 hx63
        refine f_bind ?_; intro x64 hx64
        refine f_bind ?_; intro x65 hx65
        refine f_bind ?_; intro x66 hx66
        exact f_ret (.cells Try.underlying55 rfl sz55 rfl (lds_cons (ldI_eq hx55) (lds_cons (ldI_eq hx56) (lds_cons (ldI_eq hx57) (lds_cons (ldI_eq hx58) (lds_cons (ldI_eq hx59) (lds_cons (ldI_eq hx60) (lds_cons (ldI_eq hx61) (lds_cons (ldI_eq hx62) (lds_cons (ldI_eq hx63) (lds_cons (ldI_eq hx64) (lds_cons (ldI_eq hx65) (lds_cons (ldI_eq hx66) (lds_nil))))))))))))) (.tmp rfl (.tmp rfl (.nil)))) rfl
    · skip
      refine f_know 49 rfl (dec_false h27) ?_
      refine f_condF rfl ?_
      refine f_skip ?_
      refine f_seq ?_
      refine f_bind ?_; intro x67 hx67
      refine f_bind ?_; intro x68 hx68
      refine f_bind ?_; intro x69 hx69
      refine f_bind ?_; intro x70 hx70
      refine f_bind ?_; intro x71 hx71
      refine f_bind ?_; intro x72 hx72
      refine f_bind ?_; intro x73 hx73
      refine f_bind ?_; intro x74 hx74
      refine f_bind ?_; intro x75 hx75
      refine f_bind ?_; intro x76 hx76
      refine f_bind ?_; intro x77 hx77
      refine f_bind ?_; intro x78 hx78
      refine f_bind ?_; intro x79 hx79
      refine f_bind ?_; intro x80 hx80
      refine f_bind ?_; intro x81 hx81
      refine f_bind ?_; intro x82 hx82
      refine f_bind ?_; intro p83 hp83
      refine f_if (fun h84 => ?_) (fun h84 => ?_)
      · skip
        refine f_bind ?_; intro x85 hx85
        refine f_bind ?_; intro x86 hx86
        refine f_bind ?_; intro x87 hx87
        refine f_bind ?_; intro x88 hx88
        refine f_bind ?_; intro p89 hp89
        refine f_if (fun h90 => ?_) (fun h90 => ?_)
        · skip
          refine f_bind ?_; intro x91 hx91
          refine f_bind ?_; intro x92 hx92
          refine f_bind ?_; intro x93 hx93
          refine f_bind ?_; intro x94 hx94
          refine f_bind ?_; intro p95 hp95
          refine f_bind ?_; intro H96 hH96
          refine f_ck fun g97 => ?_
          refine f_ck fun g98 => ?_
          refine f_ck fun g99 => ?_
          refine f_ck fun g100 => ?_
          refine f_ck fun g101 => ?_
          refine f_ck fun g102 => ?_
          refine f_ck fun g103 => ?_
          refine f_ck fun g104 => ?_
          refine f_ck fun g105 => ?_
          refine f_ck fun g106 => ?_
          refine f_ck fun g107 => ?_
          refine f_ck fun g108 => ?_
          refine f_ck fun g109 => ?_
          refine f_ck fun g110 => ?_
          refine f_ck fun g111 => ?_
          refine f_ck fun g112 => ?_
          refine f_ck fun g113 => ?_
          refine f_ck fun g114 => ?_
          refine f_ck fun g115 => ?_
          refine f_ck fun g116 => ?_
          refine f_ck fun g117 => ?_
          refine f_ck fun g118 => ?_
          refine f_ck fun g119 => ?_
          refine f_ck fun g120 => ?_
          refine f_ck fun g121 => ?_
          refine f_ck fun g122 => ?_
          refine f_ck fun g123 => ?_
          refine f_ck fun g124 => ?_
          refine f_ck fun g125 => ?_
          refine f_ck fun g126 => ?_
          refine f_ck fun g127 => ?_
          refine f_ck fun g128 => ?_
          refine f_ck fun g129 => ?_
          refine f_ck fun g130 => ?_
          refine f_ck fun g131 => ?_
          refine f_ck fun g132 => ?_
          refine f_draw (Φ := fun H_ => H_.ld v6 0 = some (.int .i64 x67) ∧ H_.ld v6 (0 + 1) = some (.int .i64 x68) ∧ H_.ld v6 (0 + 2) = some (.int .i64 x69) ∧ H_.ld v6 (0 + 3) = some (.int .i64 x70) ∧ H_.ld v6 (0 + 4) = some (.int .i64 x71) ∧ H_.ld v6 (0 + 5) = some (.int .i64 x72) ∧ H_.ld v6 (0 + 6) = some (.int .i64 x73) ∧ H_.ld v6 (0 + 7) = some (.int .i64 x74) ∧ H_.ld v6 (0 + 8) = some (.int .i64 x75) ∧ H_.ld v6 (0 + 9) = some (.int .i64 x76) ∧ H_.ld v6 (0 + 10) = some (.int .i64 x77) ∧ H_.ld v6 (0 + 11) = some (.int .i64 x78)) (lim := 11) [0, 1, 2, 0, 1, 2, 0, 0, 1, 2, 0, 2, 0, 0] (Trc.pure rfl rfl rfl (.inr ⟨by decide +kernel, fun _ hp_ => s_loads Try.underlying55 rfl ty55 rfl (lds_cons hp_.1 (lds_cons hp_.2.1 (lds_cons hp_.2.2.1 (lds_cons hp_.2.2.2.1 (lds_cons hp_.2.2.2.2.1 (lds_cons hp_.2.2.2.2.2.1 (lds_cons hp_.2.2.2.2.2.2.1 (lds_cons hp_.2.2.2.2.2.2.2.1 (lds_cons hp_.2.2.2.2.2.2.2.2.1 (lds_cons hp_.2.2.2.2.2.2.2.2.2.1 (lds_cons hp_.2.2.2.2.2.2.2.2.2.2.1 (lds_cons hp_.2.2.2.2.2.2.2.2.2.2.2 (lds_nil)))))))))))))⟩) (Trc.read rfl rfl rfl (s_loads Try.underlying41 rfl ty41 rfl (lds_cons (ldI_eq hx79) (lds_cons (ldI_eq hx80) (lds_cons (ldI_eq hx81) (lds_cons (ldI_eq hx82) (lds_nil)))))) (Trc.eff rfl rfl rfl (fun _ => ⟨ldI_eq hx67, ldI_eq hx68, ldI_eq hx69, ldI_eq hx70, ldI_eq hx71, ldI_eq hx72, ldI_eq hx73, ldI_eq hx74, ldI_eq hx75, ldI_eq hx76, ldI_eq hx77, ldI_eq hx78⟩) (s_callF rfl ok42 (sim42 hp83)) (Trc.pure rfl rfl rfl (.inl fun _ => s_mv (v := .bool p83.1) rfl) (Trc.know 60 rfl (bool_T h84) (Trc.read rfl rfl rfl (s_loads Try.underlying41 rfl ty41 rfl (lds_cons (ldI_eq hx85) (lds_cons (ldI_eq hx86) (lds_cons (ldI_eq hx87) (lds_cons (ldI_eq hx88) (lds_nil)))))) (Trc.eff rfl rfl rfl (fun _ => ⟨ldI_eq g97, ldI_eq g98, ldI_eq g99, ldI_eq g100, ldI_eq g101, ldI_eq g102, ldI_eq g103, ldI_eq g104, ldI_eq g105, ldI_eq g106, ldI_eq g107, ldI_eq g108⟩) (s_callF rfl ok42 (sim42 hp89)) (Trc.pure rfl rfl rfl (.inl fun _ => s_pickT (v := .bool p89.1) rfl rfl) (Trc.pure rfl rfl rfl (.inl fun _ => s_mv (v := .bool p89.1) rfl) (Trc.know 64 rfl (bool_T h90) (Trc.read rfl rfl rfl (s_loads Try.underlying41 rfl ty41 rfl (lds_cons (ldI_eq hx91) (lds_cons (ldI_eq hx92) (lds_cons (ldI_eq hx93) (lds_cons (ldI_eq hx94) (lds_nil)))))) (Trc.eff rfl rfl rfl (fun _ => ⟨ldI_eq g109, ldI_eq g110, ldI_eq g111, ldI_eq g112, ldI_eq g113, ldI_eq g114, ldI_eq g115, ldI_eq g116, ldI_eq g117, ldI_eq g118, ldI_eq g119, ldI_eq g120⟩) (s_callF rfl ok42 (sim42 hp95)) (Trc.pure rfl rfl rfl (.inl fun _ => s_pickT (v := .bool p95.1) rfl rfl) (Trc.eff rfl rfl rfl (fun _ => ⟨ldI_eq g121, ldI_eq g122, ldI_eq g123, ldI_eq g124, ldI_eq g125, ldI_eq g126, ldI_eq g127, ldI_eq g128, ldI_eq g129, ldI_eq g130, ldI_eq g131, ldI_eq g132⟩) (s_stores ty55 rfl rfl rfl rfl hH96 (Nat.le_of_eq (sts_mono hH96).symm)) (Trc.pure rfl rfl rfl (.inl fun _ => s_as (v := .bool true) rfl) (Trc.pure rfl rfl rfl (.inl fun _ => s_as (v := .bool p95.1) rfl) (Trc.nil (fun h_ => absurd h_ (by decide +kernel))))))))))))))))))) rfl (by decide +kernel) mixed ?_
          refine f_bind ?_; intro x133 hx133
          refine f_bind ?_; intro x134 hx134
          refine f_bind ?_; intro x135 hx135
          refine f_bind ?_; intro x136 hx136
          refine f_bind ?_; intro x137 hx137
          refine f_bind ?_; intro x138 hx138
          refine f_bind ?_; intro x139 hx139
          refine f_bind ?_; intro x140 hx140
          refine f_bind ?_; intro x141 hx141
          refine f_bind ?_; intro x142 hx142
          refine f_bind ?_; intro x143 hx143
          refine f_bind ?_; intro x144 hx144
          exact f_ret (.cells Try.underlying55 rfl sz55 rfl (lds_cons (ldI_eq hx133) (lds_cons (ldI_eq hx134) (lds_cons (ldI_eq hx135) (lds_cons (ldI_eq hx136) (lds_cons (ldI_eq hx137) (lds_cons (ldI_eq hx138) (lds_cons (ldI_eq hx139) (lds_cons (ldI_eq hx140) (lds_cons (ldI_eq hx141) (lds_cons (ldI_eq hx142) (lds_cons (ldI_eq hx143) (lds_cons (ldI_eq hx144) (lds_nil))))))))))))) (.tmp rfl (.tmp rfl (.nil)))) rfl
        · skip
          refine f_bind ?_; intro H145 hH145
          refine f_ck fun g146 => ?_
          refine f_ck fun g147 => ?_
          refine f_ck fun g148 => ?_
          refine f_ck fun g149 => ?_
          refine f_ck fun g150 => ?_
          refine f_ck fun g151 => ?_
          refine f_ck fun g152 => ?_
          refine f_ck fun g153 => ?_
          refine f_ck fun g154 => ?_
          refine f_ck fun g155 => ?_
          refine f_ck fun g156 => ?_
          refine f_ck fun g157 => ?_
          refine f_ck fun g158 => ?_
          refine f_ck fun g159 => ?_
          refine f_ck fun g160 => ?_
          refine f_ck fun g161 => ?_
          refine f_ck fun g162 => ?_
          refine f_ck fun g163 => ?_
          refine f_ck fun g164 => ?_
          refine f_ck fun g165 => ?_
          refine f_ck fun g166 => ?_
          refine f_ck fun g167 => ?_
          refine f_ck fun g168 => ?_
          refine f_ck fun g169 => ?_
          refine f_draw (Φ := fun H_ => H_.ld v6 0 = some (.int .i64 x67) ∧ H_.ld v6 (0 + 1) = some (.int .i64 x68) ∧ H_.ld v6 (0 + 2) = some (.int .i64 x69) ∧ H_.ld v6 (0 + 3) = some (.int .i64 x70) ∧ H_.ld v6 (0 + 4) = some (.int .i64 x71) ∧ H_.ld v6 (0 + 5) = some (.int .i64 x72) ∧ H_.ld v6 (0 + 6) = some (.int .i64 x73) ∧ H_.ld v6 (0 + 7) = some (.int .i64 x74) ∧ H_.ld v6 (0 + 8) = some (.int .i64 x75) ∧ H_.ld v6 (0 + 9) = some (.int .i64 x76) ∧ H_.ld v6 (0 + 10) = some (.int .i64 x77) ∧ H_.ld v6 (0 + 11) = some (.int .i64 x78)) (lim := 11) [0, 1, 2, 0, 1, 2, 0, 0, 0, 0, 0, 2, 0, 0] (Trc.pure rfl rfl rfl (.inr ⟨by decide +kernel, fun _ hp_ => s_loads Try.underlying55 rfl ty55 rfl (lds_cons hp_.1 (lds_cons hp_.2.1 (lds_cons hp_.2.2.1 (lds_cons hp_.2.2.2.1 (lds_cons hp_.2.2.2.2.1 (lds_cons hp_.2.2.2.2.2.1 (lds_cons hp_.2.2.2.2.2.2.1 (lds_cons hp_.2.2.2.2.2.2.2.1 (lds_cons hp_.2.2.2.2.2.2.2.2.1 (lds_cons hp_.2.2.2.2.2.2.2.2.2.1 (lds_cons hp_.2.2.2.2.2.2.2.2.2.2.1 (lds_cons hp_.2.2.2.2.2.2.2.2.2.2.2 (lds_nil)))))))))))))⟩) (Trc.read rfl rfl rfl (s_loads Try.underlying41 rfl ty41 rfl (lds_cons (ldI_eq hx79) (lds_cons (ldI_eq hx80) (lds_cons (ldI_eq hx81) (lds_cons (ldI_eq hx82) (lds_nil)))))) (Trc.eff rfl rfl rfl (fun _ => ⟨ldI_eq hx67, ldI_eq hx68, ldI_eq hx69, ldI_eq hx70, ldI_eq hx71, ldI_eq hx72, ldI_eq hx73, ldI_eq hx74, ldI_eq hx75, ldI_eq hx76, ldI_eq hx77, ldI_eq hx78⟩) (s_callF rfl ok42 (sim42 hp83)) (Trc.pure rfl rfl rfl (.inl fun _ => s_mv (v := .bool p83.1) rfl) (Trc.know 60 rfl (bool_T h84) (Trc.read rfl rfl rfl (s_loads Try.underlying41 rfl ty41 rfl (lds_cons (ldI_eq hx85) (lds_cons (ldI_eq hx86) (lds_cons (ldI_eq hx87) (lds_cons (ldI_eq hx88) (lds_nil)))))) (Trc.eff rfl rfl rfl (fun _ => ⟨ldI_eq g146, ldI_eq g147, ldI_eq g148, ldI_eq g149, ldI_eq g150, ldI_eq g151, ldI_eq g152, ldI_eq g153, ldI_eq g154, ldI_eq g155, ldI_eq g156, ldI_eq g157⟩) (s_callF rfl ok42 (sim42 hp89)) (Trc.pure rfl rfl rfl (.inl fun _ => s_pickT (v := .bool p89.1) rfl rfl) (Trc.pure rfl rfl rfl (.inl fun _ => s_mv (v := .bool p89.1) rfl) (Trc.know 64 rfl (bool_F h90) (Trc.no rfl rfl rfl (Trc.no rfl rfl rfl (Trc.pure rfl rfl rfl (.inl fun _ => s_pickF (v := .bool false) rfl rfl) (Trc.eff rfl rfl rfl (fun _ => ⟨ldI_eq g158, ldI_eq g159, ldI_eq g160, ldI_eq g161, ldI_eq g162, ldI_eq g163, ldI_eq g164, ldI_eq g165, ldI_eq g166, ldI_eq g167, ldI_eq g168, ldI_eq g169⟩) (s_stores ty55 rfl rfl rfl rfl hH145 (Nat.le_of_eq (sts_mono hH145).symm)) (Trc.pure rfl rfl rfl (.inl fun _ => s_as (v := .bool true) rfl) (Trc.pure rfl rfl rfl (.inl fun _ => s_as (v := .bool false) rfl) (Trc.nil (fun h_ => absurd h_ (by decide +kernel))))))))))))))))))) rfl (by decide +kernel) mixed ?_
          refine f_bind ?_; intro x170 hx170
          refine f_bind ?_; intro x171 hx171
          refine f_bind ?_; intro x172 hx172
          refine f_bind ?_; intro x173 hx173
          refine f_bind ?_; intro x174 hx174
          refine f_bind ?_; intro x175 hx175
          refine f_bind ?_; intro x176 hx176
          refine f_bind ?_; intro x177 hx177
          refine f_bind ?_; intro x178 hx178
          refine f_bind ?_; intro x179 hx179
          refine f_bind ?_; intro x180 hx180
          refine f_bind ?_; intro x181 hx181
          exact f_ret (.cells Try.underlying55 rfl sz55 rfl (lds_cons (ldI_eq hx170) (lds_cons (ldI_eq hx171) (lds_cons (ldI_eq hx172) (lds_cons (ldI_eq hx173) (lds_cons (ldI_eq hx174) (lds_cons (ldI_eq hx175) (lds_cons (ldI_eq hx176) (lds_cons (ldI_eq hx177) (lds_cons (ldI_eq hx178) (lds_cons (ldI_eq hx179) (lds_cons (ldI_eq hx180) (lds_cons (ldI_eq hx181) (lds_nil))))))))))))) (.tmp rfl (.tmp rfl (.nil)))) rfl
      · skip
        refine f_bind ?_; intro H182 hH182
        refine f_ck fun g183 => ?_
        refine f_ck fun g184 => ?_
        refine f_ck fun g185 => ?_
        refine f_ck fun g186 => ?_
        refine f_ck fun g187 => ?_
        refine f_ck fun g188 => ?_
        refine f_ck fun g189 => ?_
        refine f_ck fun g190 => ?_
        refine f_ck fun g191 => ?_
        refine f_ck fun g192 => ?_
        refine f_ck fun g193 => ?_
        refine f_ck fun g194 => ?_
        refine f_draw (Φ := fun H_ => H_.ld v6 0 = some (.int .i64 x67) ∧ H_.ld v6 (0 + 1) = some (.int .i64 x68) ∧ H_.ld v6 (0 + 2) = some (.int .i64 x69) ∧ H_.ld v6 (0 + 3) = some (.int .i64 x70) ∧ H_.ld v6 (0 + 4) = some (.int .i64 x71) ∧ H_.ld v6 (0 + 5) = some (.int .i64 x72) ∧ H_.ld v6 (0 + 6) = some (.int .i64 x73) ∧ H_.ld v6 (0 + 7) = some (.int .i64 x74) ∧ H_.ld v6 (0 + 8) = some (.int .i64 x75) ∧ H_.ld v6 (0 + 9) = some (.int .i64 x76) ∧ H_.ld v6 (0 + 10) = some (.int .i64 x77) ∧ H_.ld v6 (0 + 11) = some (.int .i64 x78)) (lim := 11) [0, 1, 2, 0, 0, 0, 0, 0, 0, 0, 0, 2, 0, 0] (Trc.pure rfl rfl rfl (.inr ⟨by decide +kernel, fun _ hp_ => s_loads Try.underlying55 rfl ty55 rfl (lds_cons hp_.1 (lds_cons hp_.2.1 (lds_cons hp_.2.2.1 (lds_cons hp_.2.2.2.1 (lds_cons hp_.2.2.2.2.1 (lds_cons hp_.2.2.2.2.2.1 (lds_cons hp_.2.2.2.2.2.2.1 (lds_cons hp_.2.2.2.2.2.2.2.1 (lds_cons hp_.2.2.2.2.2.2.2.2.1 (lds_cons hp_.2.2.2.2.2.2.2.2.2.1 (lds_cons hp_.2.2.2.2.2.2.2.2.2.2.1 (lds_cons hp_.2.2.2.2.2.2.2.2.2.2.2 (lds_nil)))))))))))))⟩) (Trc.read rfl rfl rfl (s_loads Try.underlying41 rfl ty41 rfl (lds_cons (ldI_eq hx79) (lds_cons (ldI_eq hx80) (lds_cons (ldI_eq hx81) (lds_cons (ldI_eq hx82) (lds_nil)))))) (Trc.eff rfl rfl rfl (fun _ => ⟨ldI_eq hx67, ldI_eq hx68, ldI_eq hx69, ldI_eq hx70, ldI_eq hx71, ldI_eq hx72, ldI_eq hx73, ldI_eq hx74, ldI_eq hx75, ldI_eq hx76, ldI_eq hx77, ldI_eq hx78⟩) (s_callF rfl ok42 (sim42 hp83)) (Trc.pure rfl rfl rfl (.inl fun _ => s_mv (v := .bool p83.1) rfl) (Trc.know 60 rfl (bool_F h84) (Trc.no rfl rfl rfl (Trc.no rfl rfl rfl (Trc.pure rfl rfl rfl (.inl fun _ => s_pickF (v := .bool false) rfl rfl) (Trc.pure rfl rfl rfl (.inl fun _ => s_mv (v := .bool false) rfl) (Trc.no rfl rfl rfl (Trc.no rfl rfl rfl (Trc.pure rfl rfl rfl (.inl fun _ => s_pickF (v := .bool false) rfl rfl) (Trc.eff rfl rfl rfl (fun _ => ⟨ldI_eq g183, ldI_eq g184, ldI_eq g185, ldI_eq g186, ldI_eq g187, ldI_eq g188, ldI_eq g189, ldI_eq g190, ldI_eq g191, ldI_eq g192, ldI_eq g193, ldI_eq g194⟩) (s_stores ty55 rfl rfl rfl rfl hH182 (Nat.le_of_eq (sts_mono hH182).symm)) (Trc.pure rfl rfl rfl (.inl fun _ => s_as (v := .bool true) rfl) (Trc.pure rfl rfl rfl (.inl fun _ => s_as (v := .bool false) rfl) (Trc.nil (fun h_ => absurd h_ (by decide +kernel)))))))))))))))))) rfl (by decide +kernel) mixed ?_
        refine f_bind ?_; intro x195 hx195
        refine f_bind ?_; intro x196 hx196
        refine f_bind ?_; intro x197 hx197
        refine f_bind ?_; intro x198 hx198
        refine f_bind ?_; intro x199 hx199
        refine f_bind ?_; intro x200 hx200
        refine f_bind ?_; intro x201 hx201
        refine f_bind ?_; intro x202 hx202
        refine f_bind ?_; intro x203 hx203
        refine f_bind ?_; intro x204 hx204
        refine f_bind ?_; intro x205 hx205
        refine f_bind ?_; intro x206 hx206
        exact f_ret (.cells Try.underlying55 rfl sz55 rfl (lds_cons (ldI_eq hx195) (lds_cons (ldI_eq hx196) (lds_cons (ldI_eq hx197) (lds_cons (ldI_eq hx198) (lds_cons (ldI_eq hx199) (lds_cons (ldI_eq hx200) (lds_cons (ldI_eq hx201) (lds_cons (ldI_eq hx202) (lds_cons (ldI_eq hx203) (lds_cons (ldI_eq hx204) (lds_cons (ldI_eq hx205) (lds_cons (ldI_eq hx206) (lds_nil))))))))))))) (.tmp rfl (.tmp rfl (.nil)))) rfl

theorem sim39 {app : App} (happ : AppSim Try.prog app) {a0 : Sl} {a1_0 : Int} {a1_1 : Int} {H : Hp} {p : (Int × Int × Int × Int × Int × Int × Int × Int × Int × Int × Int × Int × Bool × Bool) × Hp} (h : r39 app a0 a1_0 a1_1 H = some p) : CallSim Try.prog 39 [.sl a0, .agg [.int .i64 a1_0, .int .i64 a1_1]] H (.tup [.agg [.int .i64 p.1.1, .int .i64 p.1.2.1, .int .i64 p.1.2.2.1, .int .i64 p.1.2.2.2.1, .int .i64 p.1.2.2.2.2.1, .int .i64 p.1.2.2.2.2.2.1, .int .i64 p.1.2.2.2.2.2.2.1, .int .i64 p.1.2.2.2.2.2.2.2.1, .int .i64 p.1.2.2.2.2.2.2.2.2.1, .int .i64 p.1.2.2.2.2.2.2.2.2.2.1, .int .i64 p.1.2.2.2.2.2.2.2.2.2.2.1, .int .i64 p.1.2.2.2.2.2.2.2.2.2.2.2.1], .bool p.1.2.2.2.2.2.2.2.2.2.2.2.2.1, .bool p.1.2.2.2.2.2.2.2.2.2.2.2.2.2]) p.2 := by
  refine callSim (fn := Try.f39) (ret := ret39) Try.func39 rfl Try.ntmps39 rfl ?_ h
  unfold r39
  refine f_seq ?_
  refine f_region ?_
  refine f_op rfl rfl (s_box (v := .agg [.int .i64 a1_0, .int .i64 a1_1]) rfl rfl) ?_
  refine f_op rfl rfl (s_alloc (zs := [.int .i64 0, .int .i64 0, .int .i64 0, .int .i64 0, .int .i64 0, .int .i64 0, .int .i64 0, .int .i64 0, .int .i64 0, .int .i64 0, .int .i64 0, .int .i64 0]) ty55 rfl rfl) ?_
  refine f_op rfl rfl (s_as (v := .bool false) rfl) ?_
  refine f_op rfl rfl (s_as (v := .bool false) rfl) ?_
  refine o_hp ?_; intro H1 hH1
  refine f_nil ?_
  refine f_seq ?_
  refine f_bind ?_; intro p2 hp2
  refine f_bind ?_; intro x3 hx3
  refine f_bind ?_; intro x4 hx4
  refine f_bind ?_; intro p5 hp5
  refine f_bind ?_; intro H6 hH6
  refine f_ck fun g7 => ?_
  refine f_ck fun g8 => ?_
  refine f_drawF (Φ := fun H_ => H_.ld H.n 0 = some (.int .i64 x3) ∧ H_.ld H.n (0 + 1) = some (.int .i64 x4)) (lim := 3) [0, 2, 0, 2, 0, 0, 0, 2, 2, 0] [false, false, false, false, false, false, false, true, false, false] 7 8 (Trc.pure rfl rfl rfl (.inl fun _ => s_mv (v := .sl a0) rfl) (Trc.eff rfl rfl rfl (fun _ => ⟨ldI_eq g7, ldI_eq g8⟩) (s_callF rfl ok24 (sim24 hp2)) (Trc.pure rfl rfl rfl (.inr ⟨by decide +kernel, fun _ hp_ => s_loads Try.underlying49 rfl ty49 rfl (lds_cons hp_.1 (lds_cons hp_.2 (lds_nil)))⟩) (Trc.eff rfl rfl rfl (fun _ => ⟨ldI_eq hx3, ldI_eq hx4⟩) (s_callF rfl ok46 (sim46 happ hp5)) (Trc.pure rfl rfl rfl (.inl fun _ => s_mv (v := .tup [.agg [.int .i64 p5.1.1, .int .i64 p5.1.2.1, .int .i64 p5.1.2.2.1, .int .i64 p5.1.2.2.2.1], .int .i64 p5.1.2.2.2.2]) rfl) (Trc.pure rfl rfl rfl (.inl fun _ => s_extract (r := .agg [.int .i64 p5.1.1, .int .i64 p5.1.2.1, .int .i64 p5.1.2.2.1, .int .i64 p5.1.2.2.2.1]) rfl rfl) (Trc.pure rfl rfl rfl (.inl fun _ => s_extract (r := .int .i64 p5.1.2.2.2.2) rfl rfl) (Trc.fl .p rfl rfl rfl (fun h_ => absurd h_ (by decide +kernel)) rfl (by rfl) (fun _ => s_alloc (zs := [.int .i64 0, .int .i64 0, .int .i64 0, .int .i64 0]) ty41 rfl rfl) (Trc.eff rfl rfl rfl (fun h_ => absurd h_ (by decide +kernel)) (s_stores ty41 rfl rfl rfl rfl hH6 (Nat.le_of_eq (sts_mono hH6).symm)) (Trc.pure rfl rfl rfl (.inl fun _ => s_as (v := .int .i64 p5.1.2.2.2.2) rfl) (Trc.nil (fun h_ => absurd h_ (by decide +kernel))))))))))))) rfl rfl (by decide +kernel) mixed ?_
  refine f_seq ?_
  refine f_bind ?_; intro p9 hp9
  refine f_bind ?_; intro x10 hx10
  refine f_bind ?_; intro x11 hx11
  refine f_bind ?_; intro p12 hp12
  refine f_bind ?_; intro H13 hH13
  refine f_ck fun g14 => ?_
  refine f_ck fun g15 => ?_
  refine f_drawF (Φ := fun H_ => H_.ld H.n 0 = some (.int .i64 x10) ∧ H_.ld H.n (0 + 1) = some (.int .i64 x11)) (lim := 3) [0, 2, 0, 2, 0, 0, 0, 2, 2, 0] [false, false, false, false, false, false, false, true, false, false] 7 8 (Trc.pure rfl rfl rfl (.inl fun _ => s_mv (v := .sl a0) rfl) (Trc.eff rfl rfl rfl (fun _ => ⟨ldI_eq g14, ldI_eq g15⟩) (s_callF rfl ok24 (sim24 hp9)) (Trc.pure rfl rfl rfl (.inr ⟨by decide +kernel, fun _ hp_ => s_loads Try.underlying49 rfl ty49 rfl (lds_cons hp_.1 (lds_cons hp_.2 (lds_nil)))⟩) (Trc.eff rfl rfl rfl (fun _ => ⟨ldI_eq hx10, ldI_eq hx11⟩) (s_callF rfl ok63 (sim63 happ hp12)) (Trc.pure rfl rfl rfl (.inl fun _ => s_mv (v := .tup [.agg [.int .i64 p12.1.1, .int .i64 p12.1.2.1, .int .i64 p12.1.2.2.1, .int .i64 p12.1.2.2.2.1], .int .i64 p12.1.2.2.2.2]) rfl) (Trc.pure rfl rfl rfl (.inl fun _ => s_extract (r := .agg [.int .i64 p12.1.1, .int .i64 p12.1.2.1, .int .i64 p12.1.2.2.1, .int .i64 p12.1.2.2.2.1]) rfl rfl) (Trc.pure rfl rfl rfl (.inl fun _ => s_extract (r := .int .i64 p12.1.2.2.2.2) rfl rfl) (Trc.fl .p rfl rfl rfl (fun h_ => absurd h_ (by decide +kernel)) rfl (by rfl) (fun _ => s_alloc (zs := [.int .i64 0, .int .i64 0, .int .i64 0, .int .i64 0]) ty41 rfl rfl) (Trc.eff rfl rfl rfl (fun h_ => absurd h_ (by decide +kernel)) (s_stores ty41 rfl rfl rfl rfl hH13 (Nat.le_of_eq (sts_mono hH13).symm)) (Trc.pure rfl rfl rfl (.inl fun _ => s_as (v := .int .i64 p12.1.2.2.2.2) rfl) (Trc.nil (fun h_ => absurd h_ (by decide +kernel))))))))))))) rfl rfl (by decide +kernel) mixed ?_
  refine f_seq ?_
  refine f_bind ?_; intro p16 hp16
  refine f_bind ?_; intro x17 hx17
  refine f_bind ?_; intro x18 hx18
  refine f_bind ?_; intro p19 hp19
  refine f_bind ?_; intro H20 hH20
  refine f_ck fun g21 => ?_
  refine f_ck fun g22 => ?_
  refine f_drawF (Φ := fun H_ => H_.ld H.n 0 = some (.int .i64 x17) ∧ H_.ld H.n (0 + 1) = some (.int .i64 x18)) (lim := 3) [0, 2, 0, 2, 0, 0, 0, 2, 2, 0] [false, false, false, false, false, false, false, true, false, false] 7 8 (Trc.pure rfl rfl rfl (.inl fun _ => s_mv (v := .sl a0) rfl) (Trc.eff rfl rfl rfl (fun _ => ⟨ldI_eq g21, ldI_eq g22⟩) (s_callF rfl ok24 (sim24 hp16)) (Trc.pure rfl rfl rfl (.inr ⟨by decide +kernel, fun _ hp_ => s_loads Try.underlying49 rfl ty49 rfl (lds_cons hp_.1 (lds_cons hp_.2 (lds_nil)))⟩) (Trc.eff rfl rfl rfl (fun _ => ⟨ldI_eq hx17, ldI_eq hx18⟩) (s_callF rfl ok40 (sim40 happ hp19)) (Trc.pure rfl rfl rfl (.inl fun _ => s_mv (v := .tup [.agg [.int .i64 p19.1.1, .int .i64 p19.1.2.1, .int .i64 p19.1.2.2.1, .int .i64 p19.1.2.2.2.1], .int .i64 p19.1.2.2.2.2]) rfl) (Trc.pure rfl rfl rfl (.inl fun _ => s_extract (r := .agg [.int .i64 p19.1.1, .int .i64 p19.1.2.1, .int .i64 p19.1.2.2.1, .int .i64 p19.1.2.2.2.1]) rfl rfl) (Trc.pure rfl rfl rfl (.inl fun _ => s_extract (r := .int .i64 p19.1.2.2.2.2) rfl rfl) (Trc.fl .p rfl rfl rfl (fun h_ => absurd h_ (by decide +kernel)) rfl (by rfl) (fun _ => s_alloc (zs := [.int .i64 0, .int .i64 0, .int .i64 0, .int .i64 0]) ty41 rfl rfl) (Trc.eff rfl rfl rfl (fun h_ => absurd h_ (by decide +kernel)) (s_stores ty41 rfl rfl rfl rfl hH20 (Nat.le_of_eq (sts_mono hH20).symm)) (Trc.pure rfl rfl rfl (.inl fun _ => s_as (v := .int .i64 p19.1.2.2.2.2) rfl) (Trc.nil (fun h_ => absurd h_ (by decide +kernel))))))))))))) rfl rfl (by decide +kernel) mixed ?_
  refine f_seq ?_
  refine f_region ?_
  refine o_bind ?_; intro x23 hx23
  refine o_bind ?_; intro x24 hx24
  refine o_bind ?_; intro x25 hx25
  refine o_bind ?_; intro x26 hx26
  refine f_op rfl rfl (s_loads Try.underlying41 rfl ty41 rfl (lds_cons (ldI_eq hx23) (lds_cons (ldI_eq hx24) (lds_cons (ldI_eq hx25) (lds_cons (ldI_eq hx26) (lds_nil)))))) ?_
  refine o_bind ?_; intro x27 hx27
  refine o_bind ?_; intro x28 hx28
  refine o_bind ?_; intro x29 hx29
  refine o_bind ?_; intro x30 hx30
  refine f_op rfl rfl (s_loads Try.underlying41 rfl ty41 rfl (lds_cons (ldI_eq hx27) (lds_cons (ldI_eq hx28) (lds_cons (ldI_eq hx29) (lds_cons (ldI_eq hx30) (lds_nil)))))) ?_
  refine o_bind ?_; intro x31 hx31
  refine o_bind ?_; intro x32 hx32
  refine o_bind ?_; intro x33 hx33
  refine o_bind ?_; intro x34 hx34
  refine f_op rfl rfl (s_loads Try.underlying41 rfl ty41 rfl (lds_cons (ldI_eq hx31) (lds_cons (ldI_eq hx32) (lds_cons (ldI_eq hx33) (lds_cons (ldI_eq hx34) (lds_nil)))))) ?_
  refine f_op rfl rfl (s_buildA (cs := [.int .i64 x23, .int .i64 x24, .int .i64 x25, .int .i64 x26, .int .i64 x27, .int .i64 x28, .int .i64 x29, .int .i64 x30, .int .i64 x31, .int .i64 x32, .int .i64 x33, .int .i64 x34]) Try.underlying55 ty55 ty41 rfl rfl) ?_
  refine f_op rfl rfl (s_alloc (zs := [.int .i64 0, .int .i64 0, .int .i64 0, .int .i64 0, .int .i64 0, .int .i64 0, .int .i64 0, .int .i64 0, .int .i64 0, .int .i64 0, .int .i64 0, .int .i64 0]) ty55 rfl rfl) ?_
  refine o_bind ?_; intro H35 hH35
  refine f_op rfl rfl (s_stores ty55 rfl rfl rfl rfl hH35 (Nat.le_of_eq (sts_mono hH35).symm)) ?_
  refine f_nil ?_
  refine f_seq ?_
  refine f_seq ?_
  refine f_region ?_
  refine f_op rfl rfl (s_mv (v := .int .i64 p5.1.2.2.2.2) rfl) ?_
  refine f_op rfl rfl (s_mv (v := .int .i64 p12.1.2.2.2.2) rfl) ?_
  refine f_op rfl rfl (s_neq rfl rfl) ?_
  refine f_op rfl rfl (s_mv (v := .bool (decide (p5.1.2.2.2.2 ≠ p12.1.2.2.2.2))) rfl) ?_
  refine o_if (fun h36 => ?_) (fun h36 => ?_)
  · skip
    refine o_know 42 rfl (dec_true h36) ?_
    refine f_no rfl rfl ?_
    refine f_no rfl rfl ?_
    refine f_no rfl rfl ?_
    refine f_op rfl rfl (s_pickT (v := .bool true) rfl rfl) ?_
    refine f_nil ?_
    refine f_keep [4, 7, 8, 9, 11, 13, 46] ?_
    exact s39_j0 happ ((H.push (.cells [.int .i64 a1_0, .int .i64 a1_1] false)).n) p5.2.n p5.1.2.2.2.2 p12.2.n p19.2.n H20.n true H35
  · skip
    refine o_know 42 rfl (dec_false h36) ?_
    refine f_op rfl rfl (s_mv (v := .int .i64 p5.1.2.2.2.2) rfl) ?_
    refine f_op rfl rfl (s_mv (v := .int .i64 p19.1.2.2.2.2) rfl) ?_
    refine f_op rfl rfl (s_neq rfl rfl) ?_
    refine f_op rfl rfl (s_pickF (v := .bool (decide (p5.1.2.2.2.2 ≠ p19.1.2.2.2.2))) rfl rfl) ?_
    refine f_nil ?_
    refine f_keep [4, 7, 8, 9, 11, 13, 46] ?_
    exact s39_j0 happ ((H.push (.cells [.int .i64 a1_0, .int .i64 a1_1] false)).n) p5.2.n p5.1.2.2.2.2 p12.2.n p19.2.n H20.n (decide (p5.1.2.2.2.2 ≠ p19.1.2.2.2.2)) H35

/- 9 congou/congoulaw05.DealsEqual -/
theorem ok9 : FnOk Try.prog 9 := ⟨⟨Try.f9, Try.func9, by kernel_rfl, rfl⟩⟩
theorem s9_l1 {app : App} (happ : AppSim Try.prog app) (kt0 : Int → Sl → Sl → Int → Int → Hp → Option (Bool × Hp)) (hkt0 : ∀ (v1 : Int) (v2 : Sl) (v3 : Sl) (v4 : Int) (v5 : Int) (H : Hp), Fin Try.prog Try.f9 ret9 95 (todoAt (bodyOf Try.f9) [1, 1, 1, 0, 1, 0, 0] []) [(1, .int .i64 v1), (5, .sl v2), (19, .sl v3), (20, .int .i64 v4), (21, .int .i64 v5)] H (kt0 v1 v2 v3 v4 v5 H)) : ∀ (k_ : Nat) (v1 : Int) (v2 : Sl) (v3 : Sl) (v4 : Int) (v5 : Int) (v6 : Sl) (v7 : Int) (v8 : Int) (H : Hp), Fin Try.prog Try.f9 ret9 95 (todoAt (bodyOf Try.f9) [1, 1, 1, 0, 1, 0, 0, 1, 1, 0, 0, 1, 1, 0, 0] []) [(1, .int .i64 v1), (5, .sl v2), (19, .sl v3), (20, .int .i64 v4), (21, .int .i64 v5), (31, .sl v6), (32, .int .i64 v7), (33, .int .i64 v8)] H (r9_l1 app kt0 k_ v1 v2 v3 v4 v5 v6 v7 v8 H) := by
  intro k_
  induction k_ with
  | zero => intro _ _ _ _ _ _ _ _ _; exact f_none
  | succ k_ ih =>
    intro v1 v2 v3 v4 v5 v6 v7 v8 H
    rw [r9_l1]
    refine f_seq ?_
    refine f_region ?_
    refine f_op rfl rfl (s_lss rfl rfl) ?_
    refine f_nil ?_
    refine f_seq ?_
    refine f_if (fun h1 => ?_) (fun h1 => ?_)
    · skip
      refine f_know 34 rfl (dec_true h1) ?_
      refine f_condT rfl ?_
      refine f_skip ?_
      refine f_seq ?_
      refine f_block ?_
      refine f_seq ?_
      refine f_region ?_
      refine o_ck fun g2 => ?_
      refine f_op rfl rfl (s_idx Try.underlying35 ty49 rfl rfl g2) ?_
      refine o_bind ?_; intro x3 hx3
      refine o_bind ?_; intro x4 hx4
      refine f_op rfl rfl (s_loads Try.underlying49 rfl ty49 rfl (lds_cons (ldI_eq hx3) (lds_cons (ldI_eq hx4) (lds_nil)))) ?_
      refine f_op rfl rfl (s_alloc (zs := [.int .i64 0, .int .i64 0]) ty49 rfl rfl) ?_
      refine o_bind ?_; intro H5 hH5
      refine f_op rfl rfl (s_stores ty49 rfl rfl rfl rfl hH5 (Nat.le_of_eq (sts_mono hH5).symm)) ?_
      refine f_nil ?_
      refine f_seq ?_
      refine f_region ?_
      refine f_op rfl rfl (s_mv (v := .sl v2) rfl) ?_
      refine o_bind ?_; intro x6 hx6
      refine o_bind ?_; intro x7 hx7
      refine f_op rfl rfl (s_loads Try.underlying49 rfl ty49 rfl (lds_cons (ldI_eq hx6) (lds_cons (ldI_eq hx7) (lds_nil)))) ?_
      refine o_bind ?_; intro p8 hp8
      refine f_op rfl rfl (s_callF rfl ok32 (sim32 hp8)) ?_
      refine f_op rfl rfl (s_not rfl) ?_
      refine f_nil ?_
      refine f_if (fun h9 => ?_) (fun h9 => ?_)
      · skip
        refine f_know 40 rfl (bool_notT h9) ?_
        refine f_condF rfl ?_
        refine f_skip ?_
        refine f_inBlock ?_
        refine f_region ?_
        refine f_op rfl rfl (s_add rfl rfl) ?_
        refine f_op rfl rfl (s_mv (v := .int .i64 (w64 (v8 + 1))) rfl) ?_
        refine f_nil ?_
        refine f_inLoop ?_
        refine f_keep [1, 5, 19, 20, 21, 31, 32, 33] ?_
        exact ih v1 v2 v3 v4 v5 v6 v7 (w64 (v8 + 1)) p8.2
      · skip
        refine f_know 40 rfl (bool_notF h9) ?_
        refine f_condT rfl ?_
        refine f_region ?_
        refine f_op rfl rfl (s_mv (v := .sl v2) rfl) ?_
        refine o_bind ?_; intro x10 hx10
        refine o_bind ?_; intro x11 hx11
        refine f_op rfl rfl (s_loads Try.underlying49 rfl ty49 rfl (lds_cons (ldI_eq hx10) (lds_cons (ldI_eq hx11) (lds_nil)))) ?_
        refine f_op rfl rfl (s_buildSlice (cs := [.int .i64 x10, .int .i64 x11]) Try.underlying35 ty49 (by decide) (by decide) rfl (by decide) rfl) ?_
        refine o_bind ?_; intro x12 hx12
        refine f_op rfl rfl (s_ap rfl rfl Try.underlying35 Try.underlying35 ty49 rfl rfl rfl rfl rfl rfl rfl hx12) ?_
        refine f_op rfl rfl (s_as (v := .sl x12.1) rfl) ?_
        refine f_nil ?_
        refine f_inBlock ?_
        refine f_region ?_
        refine f_op rfl rfl (s_add rfl rfl) ?_
        refine f_op rfl rfl (s_mv (v := .int .i64 (w64 (v8 + 1))) rfl) ?_
        refine f_nil ?_
        refine f_inLoop ?_
        refine f_keep [1, 5, 19, 20, 21, 31, 32, 33] ?_
        exact ih v1 x12.1 v3 v4 v5 v6 v7 (w64 (v8 + 1)) x12.2
    · skip
      refine f_know 34 rfl (dec_false h1) ?_
      refine f_condF rfl ?_
      refine f_exit rfl ?_
      refine f_inBlock ?_
      refine f_region ?_
      refine f_op rfl rfl (s_add rfl rfl) ?_
      refine f_op rfl rfl (s_mv (v := .int .i64 (w64 (v5 + 1))) rfl) ?_
      refine f_nil ?_
      refine f_inLoop ?_
      refine f_keep [1, 5, 19, 20, 21] ?_
      exact hkt0 v1 v2 v3 v4 (w64 (v5 + 1)) H

theorem s9_l2 {app : App} (happ : AppSim Try.prog app) : ∀ (k_ : Nat) (v1 : Nat) (v2 : Int) (v3 : Int) (v4 : Int) (v5 : Int) (v6 : Int) (v7 : Int) (v8 : Int) (v9 : Int) (v10 : Int) (v11 : Int) (v12 : Int) (v13 : Int) (v14 : Int) (H : Hp), Fin Try.prog Try.f9 ret9 95 (todoAt (bodyOf Try.f9) [1, 1, 1, 1, 1, 1, 1, 0, 1, 0, 0] []) [(10, .ptr v1 0), (70, .agg [.int .i64 v2, .int .i64 v3, .int .i64 v4, .int .i64 v5, .int .i64 v6, .int .i64 v7, .int .i64 v8, .int .i64 v9, .int .i64 v10, .int .i64 v11, .int .i64 v12, .int .i64 v13]), (71, .int .i64 v14)] H (r9_l2 app k_ v1 v2 v3 v4 v5 v6 v7 v8 v9 v10 v11 v12 v13 v14 H) := by
  intro k_
  induction k_ with
  | zero => intro _ _ _ _ _ _ _ _ _ _ _ _ _ _ _; exact f_none
  | succ k_ ih =>
    intro v1 v2 v3 v4 v5 v6 v7 v8 v9 v10 v11 v12 v13 v14 H
    rw [r9_l2]
    refine f_seq ?_
    refine f_region ?_
    refine f_op rfl rfl (s_lss rfl rfl) ?_
    refine f_nil ?_
    refine f_seq ?_
    refine f_if (fun h1 => ?_) (fun h1 => ?_)
    · skip
      refine f_know 72 rfl (dec_true h1) ?_
      refine f_condT rfl ?_
      refine f_skip ?_
      refine f_seq ?_
      refine f_block ?_
      refine f_seq ?_
      refine f_region ?_
      refine o_ck fun g2 => ?_
      refine o_bind ?_; intro x3 hx3
      refine o_bind ?_; intro x4 hx4
      refine o_ck fun g5 => ?_
      refine o_bind ?_; intro x6 hx6
      refine o_bind ?_; intro x7 hx7
      refine o_bind ?_; intro x8 hx8
      refine o_bind ?_; intro x9 hx9
      refine o_bind ?_; intro x10 hx10
      refine o_bind ?_; intro x11 hx11
      refine o_bind ?_; intro x12 hx12
      refine o_bind ?_; intro x13 hx13
      refine f_op rfl rfl (s_index Try.underlying55 Try.underlying41 ty41 rfl rfl g2 hx3) ?_
      refine o_know 73 rfl (aggOf4 hx4 g5 (gete hx6 (asI_eq hx7)) (gete hx8 (asI_eq hx9)) (gete hx10 (asI_eq hx11)) (gete hx12 (asI_eq hx13))) ?_
      refine f_op rfl rfl (s_alloc (zs := [.int .i64 0, .int .i64 0, .int .i64 0, .int .i64 0]) ty41 rfl rfl) ?_
      refine o_bind ?_; intro H14 hH14
      refine f_op rfl rfl (s_stores ty41 rfl rfl rfl rfl hH14 (Nat.le_of_eq (sts_mono hH14).symm)) ?_
      refine f_nil ?_
      refine f_seq ?_
      refine f_region ?_
      refine f_op rfl rfl (s_fieldAddr Try.underlying41 rfl ty23 rfl) ?_
      refine o_bind ?_; intro x15 hx15
      refine o_bind ?_; intro x16 hx16
      refine f_op rfl rfl (s_loads Try.underlying23 rfl ty23 rfl (lds_cons (ldI_eq hx15) (lds_cons (ldI_eq hx16) (lds_nil)))) ?_
      refine f_op rfl rfl (s_fieldAddr Try.underlying41 rfl ty23 rfl) ?_
      refine o_bind ?_; intro x17 hx17
      refine o_bind ?_; intro x18 hx18
      refine f_op rfl rfl (s_loads Try.underlying23 rfl ty23 rfl (lds_cons (ldI_eq hx17) (lds_cons (ldI_eq hx18) (lds_nil)))) ?_
      refine f_op rfl rfl (s_neAgg eg23 rfl rfl (eq2 Try.underlying23 Try.underlying3 Try.underlying3 (by decide) (by decide) rfl rfl sih23 x15 x16 x17 x18)) ?_
      refine f_nil ?_
      refine f_if (fun h19 => ?_) (fun h19 => ?_)
      · skip
        refine f_know 78 rfl (bool_notT h19) ?_
        refine f_condF rfl ?_
        refine f_skip ?_
        refine f_inBlock ?_
        refine f_region ?_
        refine f_op rfl rfl (s_add rfl rfl) ?_
        refine f_op rfl rfl (s_mv (v := .int .i64 (w64 (v14 + 1))) rfl) ?_
        refine f_nil ?_
        refine f_inLoop ?_
        refine f_keep [10, 70, 71] ?_
        exact ih v1 v2 v3 v4 v5 v6 v7 v8 v9 v10 v11 v12 v13 (w64 (v14 + 1)) H14
      · skip
        refine f_know 78 rfl (bool_notF h19) ?_
        refine f_condT rfl ?_
        refine f_seq ?_
        refine f_region ?_
        refine f_op rfl rfl (s_as (v := .bool false) rfl) ?_
        refine f_nil ?_
        exact f_ret (.tmp rfl (.nil)) rfl
    · skip
      refine f_know 72 rfl (dec_false h1) ?_
      refine f_condF rfl ?_
      refine f_exit rfl ?_
      refine f_seq ?_
      refine f_region ?_
      refine f_op rfl rfl (s_idxA Try.underlying55 ty41 rfl rfl (by decide)) ?_
      refine o_bind ?_; intro x20 hx20
      refine o_bind ?_; intro x21 hx21
      refine o_bind ?_; intro x22 hx22
      refine o_bind ?_; intro x23 hx23
      refine f_op rfl rfl (s_loads Try.underlying41 rfl ty41 rfl (lds_cons (ldI_eq hx20) (lds_cons (ldI_eq hx21) (lds_cons (ldI_eq hx22) (lds_cons (ldI_eq hx23) (lds_nil)))))) ?_
      refine f_op rfl rfl (s_idxA Try.underlying55 ty41 rfl rfl (by decide)) ?_
      refine o_bind ?_; intro x24 hx24
      refine o_bind ?_; intro x25 hx25
      refine o_bind ?_; intro x26 hx26
      refine o_bind ?_; intro x27 hx27
      refine f_op rfl rfl (s_loads Try.underlying41 rfl ty41 rfl (lds_cons (ldI_eq hx24) (lds_cons (ldI_eq hx25) (lds_cons (ldI_eq hx26) (lds_cons (ldI_eq hx27) (lds_nil)))))) ?_
      refine f_op rfl rfl (s_eqAgg eg41 rfl rfl (eq22 Try.underlying41 Try.underlying23 Try.underlying3 Try.underlying3 ty23 (by decide) (by decide) (by decide) (by decide) rfl rfl rfl rfl sih41 sih23 x20 x21 x22 x23 x24 x25 x26 x27)) ?_
      refine f_op rfl rfl (s_mv (v := .bool (((x20 == x24) && (x21 == x25)) && ((x22 == x26) && (x23 == x27)))) rfl) ?_
      refine o_if (fun h28 => ?_) (fun h28 => ?_)
      · skip
        refine o_know 85 rfl (bool_T h28) ?_
        refine f_op rfl rfl (s_idxA Try.underlying55 ty41 rfl rfl (by decide)) ?_
        refine o_bind ?_; intro x29 hx29
        refine o_bind ?_; intro x30 hx30
        refine o_bind ?_; intro x31 hx31
        refine o_bind ?_; intro x32 hx32
        refine f_op rfl rfl (s_loads Try.underlying41 rfl ty41 rfl (lds_cons (ldI_eq hx29) (lds_cons (ldI_eq hx30) (lds_cons (ldI_eq hx31) (lds_cons (ldI_eq hx32) (lds_nil)))))) ?_
        refine f_op rfl rfl (s_idxA Try.underlying55 ty41 rfl rfl (by decide)) ?_
        refine o_bind ?_; intro x33 hx33
        refine o_bind ?_; intro x34 hx34
        refine o_bind ?_; intro x35 hx35
        refine o_bind ?_; intro x36 hx36
        refine f_op rfl rfl (s_loads Try.underlying41 rfl ty41 rfl (lds_cons (ldI_eq hx33) (lds_cons (ldI_eq hx34) (lds_cons (ldI_eq hx35) (lds_cons (ldI_eq hx36) (lds_nil)))))) ?_
        refine f_op rfl rfl (s_eqAgg eg41 rfl rfl (eq22 Try.underlying41 Try.underlying23 Try.underlying3 Try.underlying3 ty23 (by decide) (by decide) (by decide) (by decide) rfl rfl rfl rfl sih41 sih23 x29 x30 x31 x32 x33 x34 x35 x36)) ?_
        refine f_op rfl rfl (s_pickT (v := .bool (((x29 == x33) && (x30 == x34)) && ((x31 == x35) && (x32 == x36)))) rfl rfl) ?_
        refine f_op rfl rfl (s_mv (v := .bool (((x29 == x33) && (x30 == x34)) && ((x31 == x35) && (x32 == x36)))) rfl) ?_
        refine o_if (fun h37 => ?_) (fun h37 => ?_)
        · skip
          refine o_know 92 rfl (bool_T h37) ?_
          refine o_bind ?_; intro p38 hp38
          refine o_bind ?_; intro x39 hx39
          refine f_op rfl rfl (s_callA happ rfl hp38) ?_
          refine o_know 93 rfl (asB_eq hx39) ?_
          refine f_op rfl rfl (s_pickT (v := .bool x39) rfl rfl) ?_
          refine f_op rfl rfl (s_as (v := .bool x39) rfl) ?_
          refine f_nil ?_
          exact f_ret (.tmp rfl (.nil)) rfl
        · skip
          refine o_know 92 rfl (bool_F h37) ?_
          refine f_no rfl rfl ?_
          refine f_op rfl rfl (s_pickF (v := .bool false) rfl rfl) ?_
          refine f_op rfl rfl (s_as (v := .bool false) rfl) ?_
          refine f_nil ?_
          exact f_ret (.tmp rfl (.nil)) rfl
      · skip
        refine o_know 85 rfl (bool_F h28) ?_
        refine f_no rfl rfl ?_
        refine f_no rfl rfl ?_
        refine f_no rfl rfl ?_
        refine f_no rfl rfl ?_
        refine f_no rfl rfl ?_
        refine f_op rfl rfl (s_pickF (v := .bool false) rfl rfl) ?_
        refine f_op rfl rfl (s_mv (v := .bool false) rfl) ?_
        refine f_no rfl rfl ?_
        refine f_op rfl rfl (s_pickF (v := .bool false) rfl rfl) ?_
        refine f_op rfl rfl (s_as (v := .bool false) rfl) ?_
        refine f_nil ?_
        exact f_ret (.tmp rfl (.nil)) rfl

theorem s9_j3 {app : App} (happ : AppSim Try.prog app) (v1 : Nat) (v2 : Bool) (v3 : Bool) (H : Hp) : Fin Try.prog Try.f9 ret9 95 (todoAt (bodyOf Try.f9) [1, 1, 1, 1, 1, 1, 0, 1] []) [(10, .ptr v1 0), (12, .bool v2), (65, .bool v3)] H (r9_j3 app v1 v2 v3 H) := by
  unfold r9_j3
  refine f_if (fun h1 => ?_) (fun h1 => ?_)
  · skip
    refine f_know 65 rfl (bool_T h1) ?_
    refine f_condT rfl ?_
    refine f_seq ?_
    refine f_region ?_
    refine f_op rfl rfl (s_mv (v := .bool v2) rfl) ?_
    refine f_op rfl rfl (s_mv (v := .bool v2) rfl) ?_
    refine o_if (fun h2 => ?_) (fun h2 => ?_)
    · skip
      refine o_know 67 rfl (bool_T h2) ?_
      refine o_bind ?_; intro p3 hp3
      refine o_bind ?_; intro x4 hx4
      refine f_op rfl rfl (s_callA happ rfl hp3) ?_
      refine o_know 68 rfl (asB_eq hx4) ?_
      refine f_op rfl rfl (s_pickT (v := .bool x4) rfl rfl) ?_
      refine f_op rfl rfl (s_as (v := .bool x4) rfl) ?_
      refine f_nil ?_
      exact f_ret (.tmp rfl (.nil)) rfl
    · skip
      refine o_know 67 rfl (bool_F h2) ?_
      refine f_no rfl rfl ?_
      refine f_op rfl rfl (s_pickF (v := .bool false) rfl rfl) ?_
      refine f_op rfl rfl (s_as (v := .bool false) rfl) ?_
      refine f_nil ?_
      exact f_ret (.tmp rfl (.nil)) rfl
  · skip
    refine f_know 65 rfl (bool_F h1) ?_
    refine f_condF rfl ?_
    refine f_skip ?_
    refine f_seq ?_
    refine f_seq ?_
    refine f_region ?_
    refine o_bind ?_; intro x5 hx5
    refine o_bind ?_; intro x6 hx6
    refine o_bind ?_; intro x7 hx7
    refine o_bind ?_; intro x8 hx8
    refine o_bind ?_; intro x9 hx9
    refine o_bind ?_; intro x10 hx10
    refine o_bind ?_; intro x11 hx11
    refine o_bind ?_; intro x12 hx12
    refine o_bind ?_; intro x13 hx13
    refine o_bind ?_; intro x14 hx14
    refine o_bind ?_; intro x15 hx15
    refine o_bind ?_; intro x16 hx16
    refine f_op rfl rfl (s_loads Try.underlying55 rfl ty55 rfl (lds_cons (ldI_eq hx5) (lds_cons (ldI_eq hx6) (lds_cons (ldI_eq hx7) (lds_cons (ldI_eq hx8) (lds_cons (ldI_eq hx9) (lds_cons (ldI_eq hx10) (lds_cons (ldI_eq hx11) (lds_cons (ldI_eq hx12) (lds_cons (ldI_eq hx13) (lds_cons (ldI_eq hx14) (lds_cons (ldI_eq hx15) (lds_cons (ldI_eq hx16) (lds_nil)))))))))))))) ?_
    refine f_op rfl rfl (s_mv (v := .int .i64 0) rfl) ?_
    refine f_nil ?_
    refine f_block ?_
    refine f_loop ?_
    refine f_keep [10, 70, 71] ?_
    exact s9_l2 happ FUEL v1 x5 x6 x7 x8 x9 x10 x11 x12 x13 x14 x15 x16 0 H

theorem s9_l0 {app : App} (happ : AppSim Try.prog app) : ∀ (k_ : Nat) (v1 : Int) (v2 : Sl) (v3 : Sl) (v4 : Int) (v5 : Int) (H : Hp), Fin Try.prog Try.f9 ret9 95 (todoAt (bodyOf Try.f9) [1, 1, 1, 0, 1, 0, 0] []) [(1, .int .i64 v1), (5, .sl v2), (19, .sl v3), (20, .int .i64 v4), (21, .int .i64 v5)] H (r9_l0 app k_ v1 v2 v3 v4 v5 H) := by
  intro k_
  induction k_ with
  | zero => intro _ _ _ _ _ _; exact f_none
  | succ k_ ih =>
    intro v1 v2 v3 v4 v5 H
    rw [r9_l0]
    refine f_seq ?_
    refine f_region ?_
    refine f_op rfl rfl (s_lss rfl rfl) ?_
    refine f_nil ?_
    refine f_seq ?_
    refine f_if (fun h1 => ?_) (fun h1 => ?_)
    · skip
      refine f_know 22 rfl (dec_true h1) ?_
      refine f_condT rfl ?_
      refine f_skip ?_
      refine f_seq ?_
      refine f_block ?_
      refine f_seq ?_
      refine f_region ?_
      refine o_ck fun g2 => ?_
      refine f_op rfl rfl (s_idx Try.underlying35 ty49 rfl rfl g2) ?_
      refine o_bind ?_; intro x3 hx3
      refine o_bind ?_; intro x4 hx4
      refine f_op rfl rfl (s_loads Try.underlying49 rfl ty49 rfl (lds_cons (ldI_eq hx3) (lds_cons (ldI_eq hx4) (lds_nil)))) ?_
      refine f_op rfl rfl (s_alloc (zs := [.int .i64 0, .int .i64 0]) ty49 rfl rfl) ?_
      refine o_bind ?_; intro H5 hH5
      refine f_op rfl rfl (s_stores ty49 rfl rfl rfl rfl hH5 (Nat.le_of_eq (sts_mono hH5).symm)) ?_
      refine f_nil ?_
      refine f_seq ?_
      refine f_region ?_
      refine o_bind ?_; intro x6 hx6
      refine o_bind ?_; intro x7 hx7
      refine f_op rfl rfl (s_loads Try.underlying49 rfl ty49 rfl (lds_cons (ldI_eq hx6) (lds_cons (ldI_eq hx7) (lds_nil)))) ?_
      refine f_op rfl rfl (s_idxA Try.underlying49 ty3 rfl rfl (by decide)) ?_
      refine o_bind ?_; intro x8 hx8
      refine f_op rfl rfl (s_load Try.underlying3 rfl rfl (ldI_eq hx8)) ?_
      refine f_op rfl rfl (s_idxA Try.underlying49 ty3 rfl rfl (by decide)) ?_
      refine o_bind ?_; intro x9 hx9
      refine f_op rfl rfl (s_load Try.underlying3 rfl rfl (ldI_eq hx9)) ?_
      refine f_op rfl rfl (s_buildA (cs := [.int .i64 x8, .int .i64 x9]) Try.underlying49 ty49 ty3 rfl rfl) ?_
      refine f_op rfl rfl (s_buildSlice (cs := [.int .i64 x6, .int .i64 x7, .int .i64 x8, .int .i64 x9]) Try.underlying35 ty49 (by decide) (by decide) rfl (by decide) rfl) ?_
      refine f_op rfl rfl (s_lenS rfl Try.underlying35 rfl) ?_
      refine f_op rfl rfl (s_mv (v := .int .i64 0) rfl) ?_
      refine o_hp ?_; intro H10 hH10
      refine f_nil ?_
      refine f_block ?_
      refine f_loop ?_
      refine f_keep [1, 5, 19, 20, 21, 31, 32, 33] ?_
      exact s9_l1 happ _ (fun v1_ v2_ v3_ v4_ v5_ H_ => ih v1_ v2_ v3_ v4_ v5_ H_) FUEL v1 v2 v3 v4 v5 ⟨false, H5.n, 0, 2, 2, 0⟩ ((⟨false, H5.n, 0, 2, 2, 0⟩ : Sl).len : Int) 0 H10
    · skip
      refine f_know 22 rfl (dec_false h1) ?_
      refine f_condF rfl ?_
      refine f_exit rfl ?_
      refine f_seq ?_
      refine f_seq ?_
      refine f_region ?_
      refine f_op rfl rfl (s_mv (v := .sl v2) rfl) ?_
      refine f_op rfl rfl (s_lenS rfl Try.underlying35 rfl) ?_
      refine f_op rfl rfl (s_gtr rfl rfl) ?_
      refine f_nil ?_
      refine f_if (fun h11 => ?_) (fun h11 => ?_)
      · skip
        refine f_know 49 rfl (dec_true h11) ?_
        refine f_condT rfl ?_
        refine f_seq ?_
        refine f_region ?_
        refine o_bind ?_; intro p12 hp12
        refine o_bind ?_; intro x13 hx13
        refine f_op rfl rfl (s_callA happ rfl hp12) ?_
        refine o_know 50 rfl (asB_eq hx13) ?_
        refine f_op rfl rfl (s_as (v := .bool x13) rfl) ?_
        refine f_nil ?_
        exact f_ret (.tmp rfl (.nil)) rfl
      · skip
        refine f_know 49 rfl (dec_false h11) ?_
        refine f_condF rfl ?_
        refine f_skip ?_
        refine f_seq ?_
        refine f_region ?_
        refine f_op rfl rfl (s_mv (v := .sl v2) rfl) ?_
        refine f_op rfl rfl (s_mv (v := .int .i64 v1) rfl) ?_
        refine f_op rfl rfl (s_mv (v := .int .i64 v1) rfl) ?_
        refine f_op rfl rfl (s_buildA (cs := [.int .i64 v1, .int .i64 v1]) Try.underlying49 ty49 ty3 rfl rfl) ?_
        refine o_bind ?_; intro p14 hp14
        refine f_op rfl rfl (s_callF rfl ok39 (sim39 happ hp14)) ?_
        refine f_op rfl rfl (s_mv (v := .tup [.agg [.int .i64 p14.1.1, .int .i64 p14.1.2.1, .int .i64 p14.1.2.2.1, .int .i64 p14.1.2.2.2.1, .int .i64 p14.1.2.2.2.2.1, .int .i64 p14.1.2.2.2.2.2.1, .int .i64 p14.1.2.2.2.2.2.2.1, .int .i64 p14.1.2.2.2.2.2.2.2.1, .int .i64 p14.1.2.2.2.2.2.2.2.2.1, .int .i64 p14.1.2.2.2.2.2.2.2.2.2.1, .int .i64 p14.1.2.2.2.2.2.2.2.2.2.2.1, .int .i64 p14.1.2.2.2.2.2.2.2.2.2.2.2.1], .bool p14.1.2.2.2.2.2.2.2.2.2.2.2.2.1, .bool p14.1.2.2.2.2.2.2.2.2.2.2.2.2.2]) rfl) ?_
        refine f_op rfl rfl (s_extract (r := .agg [.int .i64 p14.1.1, .int .i64 p14.1.2.1, .int .i64 p14.1.2.2.1, .int .i64 p14.1.2.2.2.1, .int .i64 p14.1.2.2.2.2.1, .int .i64 p14.1.2.2.2.2.2.1, .int .i64 p14.1.2.2.2.2.2.2.1, .int .i64 p14.1.2.2.2.2.2.2.2.1, .int .i64 p14.1.2.2.2.2.2.2.2.2.1, .int .i64 p14.1.2.2.2.2.2.2.2.2.2.1, .int .i64 p14.1.2.2.2.2.2.2.2.2.2.2.1, .int .i64 p14.1.2.2.2.2.2.2.2.2.2.2.2.1]) rfl rfl) ?_
        refine f_op rfl rfl (s_extract (r := .bool p14.1.2.2.2.2.2.2.2.2.2.2.2.2.1) rfl rfl) ?_
        refine f_op rfl rfl (s_extract (r := .bool p14.1.2.2.2.2.2.2.2.2.2.2.2.2.2) rfl rfl) ?_
        refine f_op rfl rfl (s_alloc (zs := [.int .i64 0, .int .i64 0, .int .i64 0, .int .i64 0, .int .i64 0, .int .i64 0, .int .i64 0, .int .i64 0, .int .i64 0, .int .i64 0, .int .i64 0, .int .i64 0]) ty55 rfl rfl) ?_
        refine o_bind ?_; intro H15 hH15
        refine f_op rfl rfl (s_stores ty55 rfl rfl rfl rfl hH15 (Nat.le_of_eq (sts_mono hH15).symm)) ?_
        refine f_op rfl rfl (s_as (v := .bool p14.1.2.2.2.2.2.2.2.2.2.2.2.2.1) rfl) ?_
        refine f_op rfl rfl (s_as (v := .bool p14.1.2.2.2.2.2.2.2.2.2.2.2.2.2) rfl) ?_
        refine f_nil ?_
        refine f_seq ?_
        refine f_seq ?_
        refine f_region ?_
        refine f_op rfl rfl (s_mv (v := .bool p14.1.2.2.2.2.2.2.2.2.2.2.2.2.2) rfl) ?_
        refine f_op rfl rfl (s_not rfl) ?_
        refine f_op rfl rfl (s_mv (v := .bool (!p14.1.2.2.2.2.2.2.2.2.2.2.2.2.2)) rfl) ?_
        refine o_if (fun h16 => ?_) (fun h16 => ?_)
        · skip
          refine o_know 62 rfl (bool_notT h16) ?_
          refine f_op rfl rfl (s_mv (v := .bool p14.1.2.2.2.2.2.2.2.2.2.2.2.2.1) rfl) ?_
          refine f_op rfl rfl (s_not rfl) ?_
          refine f_op rfl rfl (s_pickF (v := .bool (!p14.1.2.2.2.2.2.2.2.2.2.2.2.2.1)) rfl rfl) ?_
          refine f_nil ?_
          refine f_know 12 rfl (bool_T h16) ?_
          refine f_keep [10, 12, 65] ?_
          exact s9_j3 happ p14.2.n true (!p14.1.2.2.2.2.2.2.2.2.2.2.2.2.1) H15
        · skip
          refine o_know 62 rfl (bool_notF h16) ?_
          refine f_no rfl rfl ?_
          refine f_no rfl rfl ?_
          refine f_op rfl rfl (s_pickT (v := .bool true) rfl rfl) ?_
          refine f_nil ?_
          refine f_know 12 rfl (bool_F h16) ?_
          refine f_keep [10, 12, 65] ?_
          exact s9_j3 happ p14.2.n false true H15

theorem sim9 {app : App} (happ : AppSim Try.prog app) {a0 : Sl} {a1 : Int} {H : Hp} {p : Bool × Hp} (h : r9 app a0 a1 H = some p) : CallSim Try.prog 9 [.sl a0, .int .i64 a1] H (.bool p.1) p.2 := by
  refine callSim (fn := Try.f9) (ret := ret9) Try.func9 rfl Try.ntmps9 rfl ?_ h
  unfold r9
  refine f_seq ?_
  refine f_region ?_
  refine f_op rfl rfl (s_as (v := .bool false) rfl) ?_
  refine f_nil ?_
  refine f_seq ?_
  refine f_seq ?_
  refine f_region ?_
  refine f_op rfl rfl (s_mv (v := .sl a0) rfl) ?_
  refine o_bind ?_; intro p1 hp1
  refine f_op rfl rfl (s_callF rfl ok26 (sim26 hp1)) ?_
  refine f_op rfl rfl (s_not rfl) ?_
  refine f_nil ?_
  refine f_if (fun h2 => ?_) (fun h2 => ?_)
  · skip
    refine f_know 17 rfl (bool_notT h2) ?_
    refine f_condF rfl ?_
    refine f_skip ?_
    refine f_seq ?_
    refine f_region ?_
    refine f_op rfl rfl (s_as (v := .sl ⟨true, 0, 0, 0, 0, 0⟩) rfl) ?_
    refine f_nil ?_
    refine f_seq ?_
    refine f_seq ?_
    refine f_region ?_
    refine f_op rfl rfl (s_mv (v := .sl a0) rfl) ?_
    refine f_op rfl rfl (s_lenS rfl Try.underlying35 rfl) ?_
    refine f_op rfl rfl (s_mv (v := .int .i64 0) rfl) ?_
    refine f_nil ?_
    refine f_block ?_
    refine f_loop ?_
    refine f_keep [1, 5, 19, 20, 21] ?_
    exact s9_l0 happ FUEL a1 ⟨true, 0, 0, 0, 0, 0⟩ a0 (a0.len : Int) 0 p1.2
  · skip
    refine f_know 17 rfl (bool_notF h2) ?_
    refine f_condT rfl ?_
    refine f_seq ?_
    refine f_region ?_
    refine o_bind ?_; intro p3 hp3
    refine o_bind ?_; intro x4 hx4
    refine f_op rfl rfl (s_callA happ rfl hp3) ?_
    refine o_know 18 rfl (asB_eq hx4) ?_
    refine f_op rfl rfl (s_as (v := .bool x4) rfl) ?_
    refine f_nil ?_
    exact f_ret (.tmp rfl (.nil)) rfl

end Go.Lt.P5
