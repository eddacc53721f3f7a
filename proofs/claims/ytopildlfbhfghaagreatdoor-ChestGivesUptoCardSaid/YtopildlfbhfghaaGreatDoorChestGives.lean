/-
  WHAT IS PROVED HERE: 'chestGives.proved': the statement 'Rows.ChestGivesUptoCardSaid': the tied card of the second form: for every input of bulk at most 1048576 the law returns true, and each argument reads afterwards as it read before, where the listed variables read as the program's text lays them. No further condition.
-/
import Derived.Test.YtopildlfbhfghaaGreatDoorRows
import Derived.Test.YtopildlfbhfghaaGreatDoorCards
import Derived.Test.YtopildlfbhfghaaGreatDoorTie
import Derived.Test.YtopildlfbhfghaaGreatDoorLB
import Derived.Test.YtopildlfbhfghaaGreatDoorU6C6
import Derived.JoinedCond
import Derived.Deep.DeepHandedRow
import Derived.Lib.LaidTab
import Derived.OpenShut
import Derived.WalkKit
import Derived.ProofKit
import Derived.Handy
import Derived.Lay
import Derived.SevenTiedAt
namespace Go.Proofs.YtopildlfbhfghaaGreatDoor.chestGives
open Go.ChangeShapes Go.WideShapes Go.ChangeAt Go.RowKit
set_option linter.unusedVariables false

theorem own : ownKnob Tryz.prog.godebug = none := by kernel_rfl
theorem laidOut : laidOutB Tryz.prog = true := by kernel_rfl

theorem laid_mem {P : Program} {w : World} : ∀ {laid : List (String × DataW Unit)} {ps : List MemPlace}, DataW.LaidVars P w laid ps → ∀ x ∈ laid, ∃ g t cs fuel p, P.globalNamed x.1 = some g ∧ (P.globals[g]?).map (·.type) = some t ∧ w.var? P x.1 = some cs ∧ DataW.trod (fun _ => ()) P w 0 (fun _ => true) false fuel t cs.toList = some (x.2, p)
  | [], _, _, x, hx => by cases hx
  | (n, d) :: r, ps, h, x, hx => by
    obtain ⟨g, t, cs, fuel, p, q, h1, h2, h3, h4, h5, _⟩ := h
    rcases List.mem_cons.1 hx with rfl | hx
    · exact ⟨g, t, cs, fuel, p, h1, h2, h3, h4⟩
    · exact laid_mem h5 x hx
theorem var_heap {P : Program} {w : World} {n : String} {g : Nat} {cs : Array Value} (hg : P.globalNamed n = some g) (hv : w.var? P n = some cs) : ∃ e fr, w.heap[g]? = some (.cells cs e fr) := by
  simp only [World.var?, hg, Option.bind_some] at hv
  split at hv
  · rename_i c e fr hh
    obtain rfl := Option.some.inj hv
    exact ⟨e, fr, hh⟩
  · cases hv
theorem iface_cell {P : Program} {w : World} {fuel : Nat} {t : TypeId} {ms : Array (String × TypeId)} {cs : List Value} {n : String} {d : DataW Unit} {p : List MemPlace} (ht : P.underlying t = some (.interface ms))
    (h : DataW.trod (fun _ => ()) P w 0 (fun _ => true) false fuel t cs = some (.iface n d, p)) : ∃ u v, cs = [.iface u v] := by
  cases fuel with
  | zero => simp [DataW.trod] at h
  | succ fuel =>
    unfold DataW.trod at h
    rw [ht] at h
    split at h <;> simp_all
theorem gPow : Tryz.prog.globalNamed "internal/strconv.uint64pow10" = some 2 := by kernel_rfl
theorem gSyn : Tryz.prog.globalNamed "strconv.ErrSyntax" = some 0 := by kernel_rfl
theorem gRan : Tryz.prog.globalNamed "strconv.ErrRange" = some 1 := by kernel_rfl
theorem tPow : (Tryz.prog.globals[2]?).map (·.type) = some 305 := by kernel_rfl
theorem tSyn : (Tryz.prog.globals[0]?).map (·.type) = some 98 := by kernel_rfl
theorem tRan : (Tryz.prog.globals[1]?).map (·.type) = some 98 := by kernel_rfl
theorem glob_of {W : World} (h : laidMetH Tryz.prog Rows.chestGivesUptoRow.laid W) : Go.Lt.GlbOk (Go.Lt.Kp.args W) W := by
  rw [MakeChecks.laidMetH_plain _ _ _ (by kernel_rfl)] at h
  obtain ⟨ps, hl, _, _⟩ := h
  have key : ∀ n d, (n, d) ∈ Rows.chestGivesUptoRow.laid → ∃ g t cs fuel p, Tryz.prog.globalNamed n = some g ∧ (Tryz.prog.globals[g]?).map (·.type) = some t ∧ W.var? Tryz.prog n = some cs ∧ DataW.trod (fun _ => ()) Tryz.prog W 0 (fun _ => true) false fuel t cs.toList = some (d, p) := fun n d hx => laid_mem hl (n, d) hx
  have err : ∀ (n : String) (g t : Nat) (ms : Array (String × TypeId)) (m : String) (d : DataW Unit), (n, DataW.iface m d) ∈ Rows.chestGivesUptoRow.laid → Tryz.prog.globalNamed n = some g → (Tryz.prog.globals[g]?).map (·.type) = some t → Tryz.prog.underlying t = some (.interface ms) →
      Go.Lt.Kp.args W g ∧ ∃ cs e fr, (∃ t p, cs = #[Value.iface t p]) ∧ W.heap[g]? = some (.cells cs e fr) := by
    intro n g t ms m d hx hg ht hu
    obtain ⟨g', t', cs, fuel, p, h1, h2, h3, h4⟩ := key n _ hx
    obtain rfl := Option.some.inj (hg.symm.trans h1)
    obtain rfl := Option.some.inj (ht.symm.trans h2)
    obtain ⟨u, v, hcs⟩ := iface_cell hu h4
    obtain ⟨e, fr, hh⟩ := var_heap hg h3
    exact ⟨(Array.getElem?_eq_some_iff.1 hh).1, cs, e, fr, ⟨u, v, by rw [← Array.toList_inj, hcs]⟩, hh⟩
  intro g p hg
  simp only [Go.Lt.glbs, List.mem_cons, Prod.mk.injEq, List.not_mem_nil, or_false] at hg
  rcases hg with ⟨rfl, rfl⟩ | ⟨rfl, rfl⟩ | ⟨rfl, rfl⟩
  · obtain ⟨g', t', cs, fuel, p, h1, h2, h3, h4⟩ := key "internal/strconv.uint64pow10" (Lib.tabData .u64 Lib.pow10Tab) (.tail _ (.tail _ (.head _)))
    obtain rfl := Option.some.inj (gPow.symm.trans h1)
    obtain rfl := Option.some.inj (tPow.symm.trans h2)
    have hcs := Lib.cells_of_tab Tryz.underlying305 Tryz.underlying245 (by kernel_rfl) (by kernel_rfl) h4
    obtain ⟨e, fr, hh⟩ := var_heap gPow h3
    exact ⟨(Array.getElem?_eq_some_iff.1 hh).1, cs, e, fr, (show cs = _ by rw [← Array.toList_inj, hcs]), hh⟩
  · exact err "strconv.ErrSyntax" 0 98 _ _ _ (.tail _ (.tail _ (.tail _ (.tail _ (.tail _ (.head _)))))) gSyn tSyn Tryz.underlying98
  · exact err "strconv.ErrRange" 1 98 _ _ _ (.tail _ (.tail _ (.tail _ (.tail _ (.head _))))) gRan tRan Tryz.underlying98

mutual
theorem bulk1 {H : Type} : ∀ (d : DataW H), Rows.uptoBulk d = Go.Lt.dBulk d
  | .lit l => by cases l <;> simp [Rows.uptoBulk, Go.Lt.dBulk]
  | .nil => by simp [Rows.uptoBulk, Go.Lt.dBulk]
  | .ptr d => by simp [Rows.uptoBulk, Go.Lt.dBulk, bulk1 d]
  | .slice a b => by simp [Rows.uptoBulk, Go.Lt.dBulk, bulk2 a, bulk2 b]
  | .agg a => by simp [Rows.uptoBulk, Go.Lt.dBulk, bulk2 a]
  | .iface _ d => by simp [Rows.uptoBulk, Go.Lt.dBulk, bulk1 d]
  | .map es => by simp [Rows.uptoBulk, Go.Lt.dBulk, bulk3 es]
  | .held _ => by simp [Rows.uptoBulk, Go.Lt.dBulk]
theorem bulk2 {H : Type} : ∀ (l : List (DataW H)), Rows.uptoBulkAll l = Go.Lt.dBulkAll l
  | [] => by simp [Rows.uptoBulkAll, Go.Lt.dBulkAll]
  | d :: r => by simp [Rows.uptoBulkAll, Go.Lt.dBulkAll, bulk1 d, bulk2 r]
theorem bulk3 {H : Type} : ∀ (l : List (Lit × DataW H)), Rows.uptoBulkEntries l = Go.Lt.dBulkEntries l
  | [] => by simp [Rows.uptoBulkEntries, Go.Lt.dBulkEntries]
  | x :: r => by simp [Rows.uptoBulkEntries, Go.Lt.dBulkEntries, bulk4 x, bulk3 r]
theorem bulk4 {H : Type} : ∀ (x : Lit × DataW H), Rows.uptoBulkEntry x = Go.Lt.dBulkEntry x
  | (l, d) => by cases l <;> simp [Rows.uptoBulkEntry, Go.Lt.dBulkEntry, bulk1 d]
end


theorem reads (os : Os) {H : Type} (enc : TypeId × Value → H) : ∃ places, DataW.whole enc Tryz.prog (((World.laidAll Tryz.prog os Rows.chestGivesUptoRow.laid)).forCall (fun _ _ => 0) ⟨#[], #[.slice none 0 0, .string ⟨#[]⟩, .string ⟨#[]⟩, .int .i64 0], []⟩).memory Tryz.f6.params.toList Rows.chestGivesSpec.vars false #[.slice none 0 0, .string ⟨#[]⟩, .string ⟨#[]⟩, .int .i64 0].toList 8 = some ([.nil, .lit (.string []), .lit (.string []), .lit (.int .i64 0)], [], places) :=
  ⟨[], by kernel_rfl⟩
set_option maxRecDepth 100000 in
theorem lifted (os : Os) (started : os.Started) (H : Type) (enc : TypeId × Value → H) (F : Stop.Interp) :
    ReturnsInHanded {} Tryz.checked os 6 .any ((Rows.OpenSpec.upto Rows.chestGivesSpec).preRow enc Tryz.prog Tryz.f6 Rows.chestGivesUptoRow.domain false Rows.chestGivesUptoRow.laid) (((Rows.OpenSpec.upto Rows.chestGivesSpec).at F).post enc Tryz.prog Tryz.f6 false true false false) := by
  obtain ⟨places, hx⟩ := reads os enc
  have hok : Input.okWideB Tryz.checked.prog ((World.laidAll Tryz.prog os Rows.chestGivesUptoRow.laid).forCall (fun _ _ => 0) ⟨#[], #[.slice none 0 0, .string ⟨#[]⟩, .string ⟨#[]⟩, .int .i64 0], []⟩) 6 ⟨#[], #[.slice none 0 0, .string ⟨#[]⟩, .string ⟨#[]⟩, .int .i64 0], []⟩ = true := by kernel_rfl
  refine returnsInHanded_of_row (C := Tryz.checked) (s := Rows.OpenSpec.upto Rows.chestGivesSpec) own started (by kernel_rfl) Tryz.func6
    ⟨World.laidAll Tryz.prog os Rows.chestGivesUptoRow.laid, fun _ _ => 0, ⟨#[], #[.slice none 0 0, .string ⟨#[]⟩, .string ⟨#[]⟩, .int .i64 0], []⟩, World.laidAll_os _ _ _, World.shaped_of_ZipB (by kernel_rfl) (by kernel_rfl), (Input.okWide_of_okWideB (base := 0) hok).1, (Input.okWide_of_okWideB hok).2,
      OpenSpec.preRow_of_cond 8 hx (by kernel_rfl) (fun k hk => by cases hk; kernel_rfl) (by kernel_rfl)
        (by rw [MakeChecks.laidMetH_plain _ _ _ (by kernel_rfl)]; exact laidMet_laidAll _ (by kernel_rfl) (by kernel_rfl)), by
        simp only [Assume.holds]
        exact ⟨by simp, by simp, fun _ => Modest.zero, by simp, by simp⟩⟩ ?_
  intro W base args ds gs before hval hW _ hk _ hL _ _
  have hb : Go.Lt.dBulkAll ds ≤ 1048576 := by
    have h := of_decide_eq_true (hk _ rfl)
    rw [bulk2, Go.Lt.B.bulk_append] at h
    omega
  exact Go.Lt.B.law_contract (N := 1048576) (n := 9) (ss := [.sl (.pair (.int .i64) (.pair (.int .i64) (.pair (.int .i64) (.pair .str .unit)))), .str, .str, .int .i64]) rfl (fun ds h => by
    match ds, h with
    | [_, _, _, _], _ => rfl) (by kernel_rfl) Tryz.underlying4 laidOut (by kernel_rfl) (by kernel_rfl) Go.Lt.P10.lawCall6 hval hW hb (glob_of hL)

theorem fc1 : (Rows.chestGivesUptoRow.inPlace == Tryz.pinned.checked.prog.inPlace 6) = true := by kernel_rfl
theorem fc2 : (Rows.chestGivesUptoRow.unfollowed == Tryz.pinned.checked.prog.unfollowed 6) = true := by kernel_rfl
theorem fc3 : (Rows.chestGivesUptoRow.recurses == Tryz.pinned.checked.prog.recurses 6) = true := by kernel_rfl
theorem fc4 : (Rows.chestGivesUptoRow.named == Tryz.pinned.checked.prog.varsNamed 6) = true := by kernel_rfl
theorem fc5 : Tryz.pinned.checked.prog.mayEnter = true := by kernel_rfl
theorem fc6 : (Rows.chestGivesUptoRow.lifted == Tryz.pinned.checked.prog.liftsFinal) = true := by kernel_rfl
theorem fc7 : (Tryz.pinned.checked.prog.make == some Rows.chestGivesUptoRow.make) = true := by kernel_rfl
theorem fc8 : Tryz.pinned.checked.prog.stopsHeard = true := by kernel_rfl
theorem fc9 : (Rows.chestGivesUptoRow.plainKeys == Tryz.pinned.checked.prog.plainKeys) = true := by kernel_rfl
theorem fc10 : laidOutB Tryz.pinned.checked.prog = true := laidOut
theorem fc11 : mapsRowed Tryz.pinned.checked.prog = true := by kernel_rfl
theorem fcs : joinedFacts Tryz.pinned.checked.prog 6 Tryz.f6 (Rows.OpenSpec.upto Rows.chestGivesSpec).bare Rows.chestGivesUptoRow = true := by
  unfold joinedFacts
  rw [fc1, fc2, fc3, fc4, fc5, fc6, fc7, fc8, fc9, fc10, fc11]
  kernel_rfl
theorem over : Rows.chestGivesUptoRow.holds Tryz.pinned (Rows.OpenSpec.upto Rows.chestGivesSpec) :=
  OpenClaim.holds_of_cond 6 Tryz.f6 rfl rfl rfl rfl rfl rfl rfl ⟨rfl, rfl, rfl, rfl, rfl⟩ rfl rfl rfl rfl rfl (by kernel_rfl) Tryz.func6 fcs
    (of_decide_eq_true (by kernel_rfl)) (by unfold Func.isWrapper; first | (rw [if_pos (by decide +kernel)]; kernel_rfl) | (rw [if_neg (by decide +kernel)]; exact ⟨rfl, rfl⟩))
    (fun os started H enc _ F => by rw [OpenClaim.pre_eq_preRow]; exact lifted os started H enc F)

theorem goes_no (P : Program) (func : String) (f : FuncId) (h1 : P.funcNamed func = some f) (h2 : P.funcs.any Func.goes = false) : false = P.goesAt .entering func := by
  have hno : ∀ g : Nat, (P.funcs[g]?).any Func.goes = false := fun g => by
    cases h : P.funcs[g]? with
    | none => rfl
    | some fn =>
      have h1 := Array.any_eq_false.1 h2
      obtain ⟨hg, e⟩ := Array.getElem?_eq_some_iff.1 h
      have h2 := h1 g hg
      rw [e] at h2
      show Func.goes fn = false
      simpa using h2
  unfold Program.goesAt Program.goesFrom
  rw [h1]
  simp only [Option.any_some, Bool.or_false, Program.goes, h2, Bool.and_false]
  symm
  rw [List.any_eq_false]
  intro g _
  rw [hno g]
  simp
theorem tc1 : Rows.chestGivesUptoRow.wfByText (Rows.OpenSpec.upto Rows.chestGivesSpec) = true := by kernel_rfl
theorem tc2 : Tryz.pinned.checked.prog.mainIs = some (((true, "17ff304786ee92b109371ea4c70db86ebf56236fb17149d45948d10d04a29eba") : Bool × String).1, ((true, "17ff304786ee92b109371ea4c70db86ebf56236fb17149d45948d10d04a29eba") : Bool × String).2.toList) := by kernel_rfl
theorem tc3 : Tryz.pinned.checked.prog.funcNamed Rows.chestGivesUptoRow.func = some 6 := by kernel_rfl
theorem tc4 : true = Tryz.pinned.checked.prog.looks [] := by kernel_rfl
theorem tc5 : (([67, 9, 9, 3] : List TypeId).all fun u => !Tryz.prog.wantsStandIn u) = true := by kernel_rfl
theorem tg : (Tryz.pinned.checked.prog.funcs.any Func.goes) = false := by kernel_rfl
theorem tc6 : false = Rows.chestGivesUptoRow.goesBy Tryz.pinned.checked.prog := goes_no Tryz.pinned.checked.prog Rows.chestGivesUptoRow.func 6 tc3 tg

theorem proved : Rows.ChestGivesUptoCardSaid :=
  Claim7.holds_tied_plain_at .later [] [.data, .data, .data, .data, .sentinel, .sentinel, .pinned] true (true, "17ff304786ee92b109371ea4c70db86ebf56236fb17149d45948d10d04a29eba") true over (fun _ h => by cases h) tc1 (fun _ h => by cases h) chestGivesUpto_row_tie rfl ⟨rfl, rfl⟩ tc2 rfl
    (fun f fn hf hfn => by
      obtain rfl : f = 6 := Option.some.inj (tc3.symm.trans hf) |>.symm
      obtain rfl : fn = Tryz.f6 := (Option.some.inj (Tryz.func6.symm.trans hfn)).symm
      exact ⟨tc4, fun j t ht => by
        rw [Tryz.params6] at ht
        have hm : t ∈ ([67, 9, 9, 3] : List TypeId) := by simpa using Array.mem_of_getElem? ht
        exact (show Tryz.prog.wantsStandIn t = false by simpa using List.all_eq_true.1 tc5 t hm)⟩)
    tc6
#print axioms proved
end Go.Proofs.YtopildlfbhfghaaGreatDoor.chestGives
