/-
  WHAT IS PROVED HERE: 'dealsRules.proved': the statement 'Rows.DealsRulesCardSaid': the tied card: for every input the law returns true, and each argument reads afterwards as it read before, where the listed variable reads as the program's text lays it. No further condition.
-/
import Derived.Test.YtficeemoekikdaaDoorRows
import Derived.Test.YtficeemoekikdaaDoorCards
import Derived.Test.YtficeemoekikdaaDoorTie
import Derived.Test.YtficeemoekikdaaDoorLB
import Derived.Test.YtficeemoekikdaaDoorU3V3
import Derived.WalkKit
import Derived.ProofKit
import Derived.Handy
import Derived.Lay
import Derived.SevenTiedAt
namespace Go.Proofs.YtficeemoekikdaaDoor.dealsRules
open Go.ChangeShapes Go.WideShapes Go.ChangeAt Go.RowKit
set_option linter.unusedVariables false

theorem own : ownKnob Tryd.prog.godebug = none := by kernel_rfl
theorem laidOut : laidOutB Tryd.prog = true := by kernel_rfl

theorem gN : Tryd.prog.globalNamed "congou/congoulaw05.nobody" = some 0 := by kernel_rfl
theorem tN : (Tryd.prog.globals[0]?).map (·.type) = some 27 := by kernel_rfl
theorem c27 : Tryd.prog.cellsOf 27 = 4 := by kernel_rfl
theorem c25 : Tryd.prog.cellsOf 25 = 2 := by kernel_rfl
theorem c3 : Tryd.prog.cellsOf 3 = 1 := by kernel_rfl
theorem num0 {w : World} {b : Nat} {sp : Nat → Bool} {fuel : Nat} {cs : List Value} {x : DataW Unit × List MemPlace} (h : DataW.trod (fun _ => ()) Tryd.prog w b sp false fuel 3 cs = some x) (hx : x.1 = .lit (.int .i64 0)) : cs = [.int .i64 0] := by
  obtain ⟨n, rfl, rfl, _⟩ := DataW.trod_int Tryd.underlying3 h
  simp only [DataW.lit.injEq, Lit.int.injEq, true_and] at hx
  rw [hx]
theorem two {α : Type} {l : List α} (h : l.length = 2) : ∃ a b, l = [a, b] := by
  match l, h with
  | [a, b], _ => exact ⟨a, b, rfl⟩
theorem four {α : Type} {l : List α} (h : l.length = 4) : ∃ a b c d, l = [a, b, c, d] := by
  match l, h with
  | [a, b, c, d], _ => exact ⟨a, b, c, d, rfl⟩
set_option maxRecDepth 100000 in
theorem frac0 {w : World} {b : Nat} {sp : Nat → Bool} {fuel : Nat} {cs : List Value} {x : DataW Unit × List MemPlace} (h : DataW.trod (fun _ => ()) Tryd.prog w b sp false fuel 25 cs = some x) (hx : x.1 = .agg [.lit (.int .i64 0), .lit (.int .i64 0)]) : cs = [.int .i64 0, .int .i64 0] := by
  obtain ⟨xs, m, rfl, rfl, hl, hxl, hel⟩ := DataW.trod_struct Tryd.underlying25 h
  rw [c25] at hl
  have h0 := hel 0 _ rfl
  have h1 := hel 1 _ rfl
  obtain ⟨x0, x1, rfl⟩ := two (show xs.length = 2 from hxl)
  obtain ⟨a, b', rfl⟩ := two hl
  simp only [DataW.agg.injEq, List.map_cons, List.map_nil, List.cons.injEq, and_true] at hx
  have e0 : List.take (Tryd.prog.cellsOf 3) (List.drop 0 [a, b']) = [.int .i64 0] := num0 (show DataW.trod _ Tryd.prog w _ _ false m 3 _ = some x0 from h0) hx.1
  have e1 : List.take (Tryd.prog.cellsOf 3) (List.drop 1 [a, b']) = [.int .i64 0] := num0 (show DataW.trod _ Tryd.prog w _ _ false m 3 _ = some x1 from h1) hx.2
  rw [c3] at e0 e1
  simp only [List.drop_zero, List.take_succ_cons, List.take_zero, List.drop_succ_cons, List.cons.injEq, and_true] at e0 e1
  rw [e0, e1]
set_option maxRecDepth 100000 in
theorem point0 {w : World} {b : Nat} {sp : Nat → Bool} {fuel : Nat} {cs : List Value} {x : DataW Unit × List MemPlace} (h : DataW.trod (fun _ => ()) Tryd.prog w b sp false fuel 27 cs = some x) (hx : x.1 = Rows.laid_congou_congoulaw05_nobody) : cs = [.int .i64 0, .int .i64 0, .int .i64 0, .int .i64 0] := by
  obtain ⟨xs, m, rfl, rfl, hl, hxl, hel⟩ := DataW.trod_struct Tryd.underlying27 h
  rw [c27] at hl
  have h0 := hel 0 _ rfl
  have h1 := hel 1 _ rfl
  obtain ⟨x0, x1, rfl⟩ := two (show xs.length = 2 from hxl)
  obtain ⟨a, b', c, d, rfl⟩ := four hl
  simp only [Rows.laid_congou_congoulaw05_nobody, DataW.agg.injEq, List.map_cons, List.map_nil, List.cons.injEq, and_true] at hx
  have e0 : List.take (Tryd.prog.cellsOf 25) (List.drop 0 [a, b', c, d]) = [.int .i64 0, .int .i64 0] := frac0 (show DataW.trod _ Tryd.prog w _ _ false m 25 _ = some x0 from h0) hx.1
  have e1 : List.take (Tryd.prog.cellsOf 25) (List.drop 2 [a, b', c, d]) = [.int .i64 0, .int .i64 0] := frac0 (show DataW.trod _ Tryd.prog w _ _ false m 25 _ = some x1 from h1) hx.2
  rw [c25] at e0 e1
  simp only [List.drop_zero, List.take_succ_cons, List.take_zero, List.drop_succ_cons, List.cons.injEq, and_true] at e0 e1
  rw [e0.1, e0.2, e1.1, e1.2]
theorem glob_of {W : World} (h : laidMetH Tryd.prog Rows.dealsRulesRow.laid W) : Go.Lt.GlbOk (Go.Lt.Kp.args W) W := by
  rw [MakeChecks.laidMetH_plain _ _ _ (by kernel_rfl)] at h
  obtain ⟨ps, ⟨g0, t0, cs0, f0, p0, q0, hg0, ht0, hv0, hd0, _, _⟩, _, _⟩ := h
  obtain rfl := Option.some.inj (gN.symm.trans hg0)
  obtain rfl := Option.some.inj (tN.symm.trans ht0)
  have hcs := point0 hd0 rfl
  intro g cs hg
  simp only [Go.Lt.glbs, List.mem_singleton, Prod.mk.injEq] at hg
  obtain ⟨rfl, rfl⟩ := hg
  simp only [World.var?, gN, Option.bind_some] at hv0
  split at hv0
  · rename_i cs e fr hh
    obtain rfl := Option.some.inj hv0
    have : cs = #[.int .i64 0, .int .i64 0, .int .i64 0, .int .i64 0] := by
      rw [← Array.toList_inj, hcs]
    subst this
    exact ⟨(Array.getElem?_eq_some_iff.1 hh).1, e, fr, hh⟩
  · cases hv0

set_option maxRecDepth 100000 in
theorem lifted (os : Os) (started : os.Started) (H : Type) (enc : TypeId × Value → H) :
    ReturnsInHanded {} Tryd.checked os 3 .any (fun w args => (Rows.dealsRulesSpec.pre enc Tryd.prog Tryd.f3 [] false w args ∧ laidMetH Tryd.prog Rows.dealsRulesRow.laid w) ∧ sizedMet enc Tryd.prog Tryd.f3 (OpenSpec.ofChange Rows.dealsRulesSpec) false w args)
      (Rows.dealsRulesSpec.post enc Tryd.prog Tryd.f3 false true false false) := by
  refine returnsInHanded_of_change_and (C := Tryd.checked) (X := fun w _ => laidMetH Tryd.prog Rows.dealsRulesRow.laid w) (fun _ _ _ hh h => h.of_heap hh) own started (by kernel_rfl) Tryd.func3
    (ChangeSpec.witness_shaped (enc := enc) (C := Tryd.checked) (os := os) (X := fun w _ => laidMetH Tryd.prog Rows.dealsRulesRow.laid w) false (World.laidAll Tryd.prog os Rows.dealsRulesRow.laid) #[.slice none 0 0, .agg #[.int .i64 0, .int .i64 0]] 8 (World.laidAll_os _ _ _)
      (World.shaped_of_ZipB (by kernel_rfl) (by kernel_rfl)) (by kernel_rfl) (by kernel_rfl) (by kernel_rfl)
      (by rw [MakeChecks.laidMetH_plain _ _ _ (by kernel_rfl)]; exact laidMet_laidAll _ (by kernel_rfl) (by kernel_rfl))) ?_
  intro W base args ds gs before hval hW _ _ hL _
  exact Go.Lt.law_contract (n := 9) (ss := [.sl (.rep 2 (.int .i64)), .rep 2 (.int .i64)]) rfl (fun ds h => by
    match ds, h with
    | [_, _], _ => rfl) (by kernel_rfl) Tryd.underlying4 laidOut (by kernel_rfl) (by kernel_rfl) Go.Lt.P5.lawCall3 hval hW (glob_of hL)

theorem over : Rows.DealsRulesSaid :=
  OpenClaim.holds_of_wide 3 Tryd.f3 rfl rfl rfl rfl rfl rfl rfl ⟨rfl, rfl, rfl, rfl, rfl⟩ rfl rfl rfl rfl rfl (by kernel_rfl) Tryd.func3 (by kernel_rfl)
    (of_decide_eq_true (by kernel_rfl)) (by unfold Func.isWrapper; first | (rw [if_pos (by decide +kernel)]; kernel_rfl) | (rw [if_neg (by decide +kernel)]; exact ⟨rfl, rfl⟩))
    (fun os started H enc _ => lifted os started H enc)

theorem proved : Rows.DealsRulesCardSaid :=
  Claim7.holds_tied_plain_at .later [] [.zero] true (true, "b6ccd10a70bdf8169872029bf123db0668ec1d613edbc162610428b9e1ced81d") false over (fun _ h => by cases h) (by kernel_rfl) (fun _ h => by cases h) dealsRules_row_tie rfl ⟨rfl, rfl⟩ (by kernel_rfl) rfl
    (fun f fn hf hfn => by
      obtain rfl : f = 3 := Option.some.inj ((show Tryd.prog.funcNamed "congou/congoulaw05.DealsRules" = some 3 by kernel_rfl).symm.trans hf) |>.symm
      obtain rfl : fn = Tryd.f3 := (Option.some.inj (Tryd.func3.symm.trans hfn)).symm
      exact ⟨by kernel_rfl, fun j t ht => by
        rw [Tryd.params3] at ht
        have hm : t ∈ [22, 23] := by simpa using Array.mem_of_getElem? ht
        have hall : ([22, 23].all fun u => !Tryd.prog.wantsStandIn u) = true := by kernel_rfl
        exact (show Tryd.prog.wantsStandIn t = false by simpa using List.all_eq_true.1 hall t hm)⟩)
    (by kernel_rfl)
#print axioms proved
end Go.Proofs.YtficeemoekikdaaDoor.dealsRules
