/- PLAIN LAWS OF WHAT IS COMPUTED, for the statement 'ChestPath'. Nothing is asked of the input. -/
import Derived.Test.YtnigfapfghgmnaaGreatDoorU5CEq
import Derived.Test.YtnigfapfghgmnaaGreatDoorLB
set_option linter.unusedVariables false
set_option linter.unusedSimpArgs false
namespace Go.Lt.P10
open Go Go.Lt Go.Proofs
/-- two chests that stand apart -/
theorem ChAt.keepSp {H H' : Hp} {c d : Nat} {pv pw pw' : Sl} {C : Chs} {t : Nat} (h : ChAt H c pv C t) (s : Sp d pw.b pw'.b H H') (hd : t ≤ d) (hp : t ≤ pw.b) : ChAt H' c pv C t :=
  h.keep s.n fun b hb => s.e b (by have := h.tn; omega) (by omega) (by omega)
theorem Chs.back_zero {C : Chs} (hC : C.Ok) (h : C.at' = 0) : C.back 1 = (C, 4) := by
  rw [Chs.back_one hC, if_pos h]
theorem pathLaw {k : Nat} {H : Hp} {v : Sl} {l : List ActT} (hv : SL H v l) (hb : ∀ a ∈ l, a.2.2.2.size ≤ 1048576) (n0 : Int) : Lt.Ok (r5 (appA (k + 2)) v n0 H) fun r _ => r = true := by
  unfold r5
  refine Lt.Ok.bind (played_ok (k := k) hv hb) fun r A ⟨h0, g, hc, pv, C, t, hA, hC, _⟩ => ?_
  obtain ⟨c, o⟩ := r
  dsimp only at h0 hA ⊢
  subst h0
  have hm := hC.most; have h1 := hC.one; have hcur := hC.cur
  refine is (at_ok hA hC) ?_
  dsimp only
  refine Lt.Ok.bind (state_ok (k := k) hA hC) fun st D ⟨gD, est⟩ => ?_
  have hD := hA.gr gD
  dsimp only at est ⊢
  refine Lt.Ok.bind (path_ok hD hC) fun p E ⟨gE, hp⟩ => ?_
  have hE := hD.gr gE
  dsimp only at hp ⊢
  refine Lt.Ok.bind new_ok fun r F ⟨h0, gF, hd, pw, t2, hF, hpw⟩ => ?_
  obtain ⟨d, o⟩ := r
  dsimp only at h0 hd hF ⊢
  subst h0
  have hEF := hE.gr gF
  have hpF := hp.gr gF
  have hwl := C.way_len hC C.at'
  have hpl : p.len = (C.path C.at').length := hp.1.len
  have hpath : (C.path C.at').length = (C.way C.at').length := by unfold Chs.path; rw [List.length_map]
  have htE := hE.tn
  refine Lt.Ok.loop (L := fun K (i : Int) G => r5_l0 (appA (k + 2)) K n0 c 0 (C.at' : Int) st p d 0 p (p.len : Int) i G) (fun m i' G => ∃ (i : Nat) (pe : Sl) (te : Nat) (X : Chs), i' = (i : Int) ∧ i + m = (C.way C.at').length ∧ Along C C.at' i X ∧ ChAt G d pe X te ∧ Sp d pw.b pe.b F G) ?_ FUEL (C.way C.at').length 0 F (by unfold FUEL; omega) ⟨0, pw, t2, Chs.new, rfl, by omega, Along.new hC _, hF, .of_gr (.refl _)⟩
  rintro K m i' G ⟨i, pe, te, X, rfl, him, hX, hG, sG⟩ ih
  have keepS : ∀ {T : Type} [El T] {w : Sl} {q : List T}, SL F w q → (q ≠ [] → w.b < E.n) → SL G w q := fun hw hlt => SL.sp hw fun hne => by
    have := hlt hne
    have := gF.1
    exact sG.e _ (by omega) (by omega) (by omega)
  have hplt : C.path C.at' ≠ [] → p.b < E.n := fun hne => SL.lt hp.1.sl hne
  have hpG := keepS hpF.1.sl hplt
  have hCG : ChAt G c pv C t := hEF.keepSp sG (by omega) (by omega)
  rw [r5_l0]
  refine Lt.Ok.ite (fun hlt => ?_) fun hlt => ?_
  · have hil : i < (C.way C.at').length := by omega
    have hel : (C.path C.at')[i]'(by omega) = C.chg ((C.way C.at')[i]) := by simp [Chs.path]
    refine Lt.Ok.ck (by omega) (Lt.Ok.ld (SL.ldStr hpG (i := i) (j := 0) (by omega) rfl) ?_)
    rw [hel]
    obtain ⟨hz, hX2⟩ := hX.step hC hcur hil
    refine Lt.Ok.bind (do_ok (k := k) hG hX.ok (chg_size hC _)) fun q J ⟨hq, pe', te', hJ, sJ⟩ => ?_
    dsimp only
    rw [w64_succ (by omega)]
    refine Lt.Ok.neg (by rw [hq]; simp [hz]) (ih (m - 1) _ J (by omega) ⟨i + 1, pe', te', _, rfl, by omega, hX2, hJ, sG.trans sJ⟩)
  · have : i = (C.way C.at').length := by omega
    subst this
    obtain ⟨hfs, hfp⟩ := hX.full hC hcur
    refine Lt.Ok.bind (state_ok (k := k) hG hX.ok) fun st2 J ⟨gJ, est2⟩ => ?_
    dsimp only at est2 ⊢
    rw [est2, hfs, est]
    refine Lt.Ok.pos (strEq_self _) (Lt.Ok.bind (path_ok (hG.gr gJ) hX.ok) fun p2 L ⟨gL, hp2⟩ => ?_)
    dsimp only at hp2 ⊢
    have hGL := gJ.trans gL
    rw [hfp] at hp2
    refine Lt.Ok.bind (equal_ok hp2.1.sl (hpG.gr hGL) (by omega)) fun b M ⟨eM, eb⟩ => ?_
    subst eM; subst eb
    refine Lt.Ok.pos rfl (is (at_ok (hG.gr hGL) hX.ok) ?_)
    dsimp only
    rw [decide_eq_false (by rw [hX.cur]; omega)]
    unfold r5_j2
    have hCL := hCG.gr hGL
    refine Lt.Ok.neg (by simp) (Lt.Ok.bind (go_ok (k := k + 1) hCL hC n0) fun r N ⟨hr, hN, sN⟩ => ?_)
    have hpL := hpG.gr hGL
    have hj1 : ∀ (Q : Chs) (N : Hp), Q.pages = C.pages → Q.Ok → ChAt N c pv Q t → SL N p (C.path C.at') → (C.path C.at' ≠ [] → p.b ≠ c ∧ p.b ≠ pv.b) → Lt.Ok (r5_j1 (appA (k + 2)) c 0 (C.at' : Int) (textS (C.now C.at')) p false N) fun r _ => r = true := by
      intro Q N hQ hQok hN hpN hpne
      have hcurQ : C.at' < Q.pages.length := by rw [hQ]; exact hcur
      unfold r5_j1
      refine Lt.Ok.neg (by simp) (Lt.Ok.bind (go_ok (k := k + 1) hN hQok (C.at' : Int)) fun r O ⟨hr, hO, sO⟩ => ?_)
      rw [Q.go_in hcurQ, hQ] at hr hO
      dsimp only at hr hO ⊢
      have hCC : (⟨C.pages, C.at'⟩ : Chs) = C := rfl
      rw [hCC] at hO
      have hpO := SL.sp hpN fun hne => sO.e _ (SL.lt hpN hne) (hpne hne).1 (hpne hne).2
      refine Lt.Ok.pos hr (Lt.Ok.bind (state_ok (k := k) hO hC) fun st3 R ⟨gR, est3⟩ => ?_)
      dsimp only at est3 ⊢
      rw [est3]
      refine Lt.Ok.pos (strEq_self _) (Lt.Ok.bind (path_ok (hO.gr gR) hC) fun p3 S ⟨gS, hp3⟩ => ?_)
      have gRS := gR.trans gS
      dsimp only at hp3 ⊢
      refine Lt.Ok.bind (equal_ok hp3.1.sl (hpO.gr gRS) (by omega)) fun b T ⟨eT, eb⟩ => ?_
      subst eT; subst eb
      refine Lt.Ok.pos rfl (Lt.Ok.bind (back_ok (hO.gr gRS) hC (p.len : Int)) fun r U ⟨hr, hU, sU⟩ => ?_)
      have hpl2 : (p.len : Int) = ((C.way C.at').length : Int) := by omega
      rw [hpl2, Chs.back_all hC] at hr hU
      dsimp only at hr hU ⊢
      have hC0 : (⟨C.pages, 0⟩ : Chs).Ok := Chs.ok_at hC (by omega)
      refine Lt.Ok.pos hr (is (at_ok hU hC0) (Lt.Ok.pos rfl ?_))
      dsimp only
      refine Lt.Ok.bind (back_ok hU hC0 1) fun r V ⟨hr, _⟩ => ?_
      rw [Chs.back_zero hC0 rfl] at hr
      dsimp only at hr ⊢
      refine Lt.Ok.pos hr ?_
      rw [app13]
      exact Lt.Ok.ret rfl
    have hpne : C.path C.at' ≠ [] → p.b ≠ c ∧ p.b ≠ pv.b := fun hne => by
      have h1 : D.n ≤ p.b := by
        have hnn : p.nil = false := hp.1.sl.nonnil hne
        exact Acc.ge hp.1 hnn
      have h2 := hD.tc; have h3 := hD.tp; have h4 := hD.tn
      omega
    have hpN := SL.sp hpL fun hne => sN.e _ (SL.lt hpL hne) (hpne hne).1 (hpne hne).2
    by_cases hin : 0 ≤ n0 ∧ n0 < (C.pages.length : Int)
    · have e : C.go n0 = (⟨C.pages, n0.toNat⟩, 0) := by unfold Chs.go; rw [if_pos hin]
      rw [e] at hr hN
      dsimp only at hr hN ⊢
      refine Lt.Ok.neg (by rw [hr]; simp) ?_
      exact hj1 ⟨C.pages, n0.toNat⟩ N rfl (Chs.ok_at hC (by omega)) hN hpN hpne
    · have e : C.go n0 = (C, 2) := by unfold Chs.go; rw [if_neg hin]
      rw [e] at hr hN
      dsimp only at hr hN ⊢
      subst hr
      refine Lt.Ok.pos (by simp) (Lt.Ok.neg (by simp) (is (at_ok hN hC) ?_))
      dsimp only
      rw [decide_eq_false (by simp)]
      exact hj1 C N rfl hC hN hpN hpne
theorem encAct : B.EncP 1048576 (.pair (.int .i64) (.pair (.int .i64) (.pair (.int .i64) (.pair .str .unit)))) ActT (fun a => True ∧ True ∧ True ∧ a.2.2.2.size ≤ 1048576) :=
  B.encP_pair B.encP_int (B.encP_pair B.encP_int (B.encP_pair B.encP_int (B.encP_unit B.encP_str)))
theorem lawCall5 (H : Hp) (xs : List AV) (_ : NoOwn H) (h : B.RdAs 1048576 H [.sl (.pair (.int .i64) (.pair (.int .i64) (.pair (.int .i64) (.pair .str .unit)))), .int .i64] xs) : ∃ H1, CallSim Tryz.prog 5 xs H (.bool true) H1 := by
  obtain ⟨x, _, rfl, hx, y, _, rfl, hy, rfl⟩ := h
  obtain ⟨v, l, rfl, hv, _, hb⟩ := B.rd_slP encAct (by decide) hx
  obtain ⟨a0, e0, _⟩ : B.Rd 1048576 H (.int .i64) [y] := hy
  injection e0 with e0
  subst e0
  obtain ⟨b, H1, h1, rfl⟩ := pathLaw (k := 18) hv (fun a ha => (hb a ha).2.2.2) a0
  exact ⟨H1, sim5 (happ := appASim 20) h1⟩
end Go.Lt.P10
