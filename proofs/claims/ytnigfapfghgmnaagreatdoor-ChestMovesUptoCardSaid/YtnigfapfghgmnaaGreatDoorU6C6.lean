/- PLAIN LAWS OF WHAT IS COMPUTED, for the statement 'ChestMoves'. Nothing is asked of the input. -/
import Derived.Test.YtnigfapfghgmnaaGreatDoorU6CUm
import Derived.Test.YtnigfapfghgmnaaGreatDoorLB
set_option linter.unusedVariables false
set_option linter.unusedSimpArgs false
namespace Go.Lt.P10
open Go Go.Lt Go.Proofs
theorem movesLaw {k : Nat} {H : Hp} {v : Sl} {l : List ActT} (hv : SL H v l) (hb : ∀ a ∈ l, a.2.2.2.size ≤ 1048576) (n0 : Int) : Lt.Ok (r6 (appA (k + 2)) v n0 H) fun r _ => r = true := by
  unfold r6
  refine Lt.Ok.bind (played_ok (k := k) hv hb) fun r A ⟨h0, g, hc, pv, C, t, hA, hC, _⟩ => ?_
  obtain ⟨c, o⟩ := r
  dsimp only at h0 hA ⊢
  subst h0
  have hm := hC.most; have h1 := hC.one; have hcur := hC.cur
  refine Lt.Ok.bind (ways_ok (k := k + 1) hA hC) fun x B ⟨hx, hxb, hB, sB⟩ => ?_
  have hxl := hx.len
  rw [ints_len] at hxl
  have hwl := C.way_len hC C.at'
  have hla : (C.ways C.at').length = (C.way C.at').length + 1 := rfl
  obtain ⟨hn, i, hi, ei⟩ := umod n0 (n := x.len) (by omega) (by omega)
  dsimp only
  rw [ei]
  simp only [Int.toNat_natCast]
  refine Lt.Ok.ck hn (Lt.Ok.ck (by omega) (Lt.Ok.ld (ints_ld hx (by omega)) ?_))
  obtain ⟨q, hq1, hq2, hq3⟩ := Chs.way_take hC C.at' C.at' i (Nat.le_refl _) hcur (by omega)
  have hq : (C.ways C.at')[i]'(by omega) = q := by
    have e0 : (C.ways C.at')[i]? = some q := hq1
    rw [List.getElem?_eq_getElem (by omega)] at e0
    injection e0
  rw [hq]
  refine is (at_ok hB hC) ?_
  dsimp only
  refine Lt.Ok.bind (state_ok (k := k) hB hC) fun st D ⟨gD, est⟩ => ?_
  have hD := hB.gr gD
  dsimp only at est ⊢
  refine Lt.Ok.bind (path_ok hD hC) fun p E ⟨gE, hp⟩ => ?_
  have hE := hD.gr gE
  have hpl := hp.1.len
  dsimp only at hpl ⊢
  refine Lt.Ok.bind (go_ok (k := k + 1) hE hC (q : Int)) fun r F ⟨hr, hF, sF⟩ => ?_
  rw [C.go_in hq2] at hr hF
  dsimp only at hr hF ⊢
  subst hr
  have hCq := Chs.ok_at hC hq2
  refine Lt.Ok.neg (by simp) (Lt.Ok.bind (path_ok hF hCq) fun p2 G ⟨gG, hp2⟩ => ?_)
  have hG := hF.gr gG
  have hpl2 := hp2.1.len
  dsimp only at hpl2 ⊢
  refine Lt.Ok.bind (move_ok (k := k) hG hCq (C.at' : Int)) fun r I ⟨hr, pv', t', hI, sI⟩ => ?_
  rw [Chs.move_down hC hcur (by omega) hq1 hq3] at hr hI
  dsimp only at hr hI ⊢
  subst hr
  have hCp : (⟨C.pages, C.at'⟩ : Chs) = C := rfl
  rw [hCp] at hI
  have l1 : p.len = (C.way C.at').length := by rw [hpl]; unfold Chs.path; rw [List.length_map]
  have l2 : p2.len = i := by
    rw [hpl2]; unfold Chs.path; rw [List.length_map, Chs.way_at, hq3, List.length_take]
    omega
  refine Lt.Ok.neg (by simp) (Lt.Ok.neg (by rw [l1, l2, w64_id (by omega) (by omega)]; simp) ?_)
  refine is (at_ok hI hC) (Lt.Ok.neg (by simp) ?_)
  dsimp only
  refine Lt.Ok.bind (state_ok (k := k) hI hC) fun st2 J ⟨gJ, est2⟩ => ?_
  have hJ := hI.gr gJ
  dsimp only at est2 ⊢
  unfold r6_j0
  rw [est2, est, strEq_self]
  refine Lt.Ok.neg (by simp) (Lt.Ok.bind (move_ok (k := k) hJ hC (q : Int)) fun r K ⟨hr, pv2, t2, hK, sK⟩ => ?_)
  have hmu := Chs.move_up (p := C.at') hC hq2 hq3
  rw [hCp] at hmu
  rw [hmu] at hr hK
  dsimp only at hr hK ⊢
  subst hr
  refine Lt.Ok.pos rfl (Lt.Ok.pos rfl (is (at_ok hK hC) (Lt.Ok.pos rfl ?_)))
  dsimp only
  refine Lt.Ok.bind (state_ok (k := k) hK hC) fun st3 M ⟨gM, est3⟩ => ?_
  dsimp only at est3 ⊢
  rw [est3, strEq_self]
  refine Lt.Ok.pos rfl ?_
  rw [app13]
  exact Lt.Ok.ret rfl
theorem encAct : B.EncP 1048576 (.pair (.int .i64) (.pair (.int .i64) (.pair (.int .i64) (.pair .str .unit)))) ActT (fun a => True ∧ True ∧ True ∧ a.2.2.2.size ≤ 1048576) :=
  B.encP_pair B.encP_int (B.encP_pair B.encP_int (B.encP_pair B.encP_int (B.encP_unit B.encP_str)))
theorem lawCall6 (H : Hp) (xs : List AV) (_ : NoOwn H) (h : B.RdAs 1048576 H [.sl (.pair (.int .i64) (.pair (.int .i64) (.pair (.int .i64) (.pair .str .unit)))), .int .i64] xs) : ∃ H1, CallSim Tryz.prog 6 xs H (.bool true) H1 := by
  obtain ⟨x, _, rfl, hx, y, _, rfl, hy, rfl⟩ := h
  obtain ⟨v, l, rfl, hv, _, hb⟩ := B.rd_slP encAct (by decide) hx
  obtain ⟨a0, e0, _⟩ : B.Rd 1048576 H (.int .i64) [y] := hy
  injection e0 with e0
  subst e0
  obtain ⟨b, H1, h1, rfl⟩ := movesLaw (k := 18) hv (fun a ha => (hb a ha).2.2.2) a0
  exact ⟨H1, sim6 (happ := appASim 20) h1⟩
end Go.Lt.P10
