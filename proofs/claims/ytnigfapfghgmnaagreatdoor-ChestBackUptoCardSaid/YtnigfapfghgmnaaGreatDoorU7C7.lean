/- PLAIN LAWS OF WHAT IS COMPUTED, for the statement 'ChestBack'. Nothing is asked of the input. -/
import Derived.Test.YtnigfapfghgmnaaGreatDoorU7CCn
import Derived.Test.YtnigfapfghgmnaaGreatDoorLB
set_option linter.unusedVariables false
set_option linter.unusedSimpArgs false
namespace Go.Lt.P10
open Go Go.Lt Go.Proofs
theorem Chs.kids_mem {C : Chs} {p q : Nat} (h0 : 0 < q) (hq : q < C.pages.length) (hp : C.par q = p) : q ∈ C.kids p := by
  unfold Chs.kids
  rw [List.mem_filter]
  exact ⟨List.mem_range.2 hq, by simp [h0, hp]⟩
theorem kids_len (C : Chs) (p : Nat) : (C.kids p).length ≤ C.pages.length := by
  have := List.length_filter_le (fun i => decide (0 < i ∧ C.par i = p)) (List.range C.pages.length)
  rw [List.length_range] at this
  exact this
theorem backLaw {k : Nat} {H : Hp} {v : Sl} {l : List ActT} (hv : SL H v l) (hb : ∀ a ∈ l, a.2.2.2.size ≤ 1048576) (line : ByteArray) (hs : line.size ≤ 1048576) : Lt.Ok (r7 (appA (k + 2)) v line H) fun r _ => r = true := by
  unfold r7
  refine Lt.Ok.bind (played_ok (k := k) hv hb) fun r A ⟨h0, g, hc, pv, C, t, hA, hC, _⟩ => ?_
  obtain ⟨c, o⟩ := r
  dsimp only at h0 hA ⊢
  subst h0
  have hm := hC.most; have h1 := hC.one; have hcur := hC.cur
  refine is (at_ok hA hC) ?_
  dsimp only
  refine Lt.Ok.bind (state_ok (k := k) hA hC) fun st D ⟨gD, est⟩ => ?_
  have hD := hA.gr gD
  dsimp only at est ⊢
  refine Lt.Ok.bind (path_ok hD hC) fun p E ⟨gE, hp⟩ => ?_
  have hE := hD.gr gE
  dsimp only at hp ⊢
  have hwl := C.way_len hC C.at'
  have hpath : (C.path C.at').length = (C.way C.at').length := by unfold Chs.path; rw [List.length_map]
  have hpne : C.path C.at' ≠ [] → p.b < E.n ∧ p.b ≠ c ∧ p.b ≠ pv.b := fun hne => by
    have h1 : D.n ≤ p.b := Acc.ge hp.1 (hp.1.sl.nonnil hne)
    have h2 := hD.tc; have h3 := hD.tp; have h4 := hD.tn
    have h5 := SL.lt hp.1.sl hne
    omega
  refine Lt.Ok.bind (do_ok (k := k) hE hC hs) fun r F ⟨hr, pv2, t2, hF, sF⟩ => ?_
  have hX := Chs.do_ok hC line
  have hpF : SL F p (C.path C.at') := SL.sp hp.1.sl fun hne => sF.e _ (hpne hne).1 (hpne hne).2.1 (hpne hne).2.2
  have hpF0 : C.path C.at' = [] → p = nilS := hp.2
  by_cases hz : (C.do line).2.2 = 0
  · have hz' : r.2 = 0 := by rw [hr]; exact hz
    obtain ⟨d1, d2, d3, d4, d5, d6⟩ := Chs.do_then hC hz
    rcases hdo : C.do line with ⟨X, w, e⟩
    rw [hdo] at hF hX hz hr d1 d2 d3 d4 d5 d6
    dsimp only at hF hX hz hr d1 d2 d3 d4 d5 d6 ⊢
    subst hr
    dsimp only at hz' ⊢
    refine Lt.Ok.neg (by omega) (is (at_ok hF hX) ?_)
    dsimp only
    refine Lt.Ok.bind (state_ok (k := k) hF hX) fun st2 G ⟨gG, est2⟩ => ?_
    have hG := hF.gr gG
    dsimp only at est2 ⊢
    refine Lt.Ok.bind (path_ok hG hX) fun p2 I ⟨gI, hp2⟩ => ?_
    have hI := hG.gr gI
    dsimp only at hp2 ⊢
    rw [Chs.path_do hC hX d1 d2 d3 d4 d6] at hp2
    rw [r26_eq]
    refine Lt.Ok.bind (clone_n (n0 := I.n) ((hpF.gr gG).gr gI) hpF0 (by omega) rfl (Nat.le_refl _)) fun p3 J ⟨gJ, hp3, _⟩ => ?_
    dsimp only
    refine Lt.Ok.bind (AccN.push hp3 gJ.1 line rfl rfl (by omega)) fun p4 K ⟨k1, k2, k3, k4⟩ => ?_
    have gK : Gr I K := But.gr k2 hp3.1 gJ
    dsimp only at k1 ⊢
    refine Lt.Ok.bind (equal_ok (hp2.1.sl.gr gK) k1.1.sl (by simp; omega)) fun b L ⟨eL, eb⟩ => ?_
    subst eL; subst eb
    refine Lt.Ok.pos rfl ?_
    have hK := hI.gr gK
    refine Lt.Ok.bind (back_ok hK hX 1) fun r M ⟨hr, hM, sM⟩ => ?_
    rw [Chs.back_one hX, if_neg d1, d2] at hr hM
    dsimp only at hr hM ⊢
    subst hr
    have hY : (⟨X.pages, C.at'⟩ : Chs).Ok := Chs.ok_at hX (by omega)
    refine Lt.Ok.neg (by simp) (is (at_ok hM hY) (Lt.Ok.neg (by simp) ?_))
    dsimp only
    refine Lt.Ok.bind (state_ok (k := k) hM hY) fun st3 N ⟨gN, est3⟩ => ?_
    dsimp only at est3 ⊢
    have e3 : (⟨X.pages, C.at'⟩ : Chs).now C.at' = C.now C.at' := (d4 _ hcur).1
    rw [est3, e3, est]
    have hN := hM.gr gN
    refine Lt.Ok.pos (strEq_self _) (Lt.Ok.bind (kids_ok hN hY) fun ks O ⟨gO, hks⟩ => ?_)
    dsimp only at hks ⊢
    have hmem : (X.at' : Int) ∈ ints ((⟨X.pages, C.at'⟩ : Chs).kids C.at') := by
      refine List.mem_map.2 ⟨X.at', Chs.kids_mem (by omega) hX.cur d2, rfl⟩
    have hkl := kids_len (⟨X.pages, C.at'⟩ : Chs) C.at'
    have hXm := hX.most
    refine Lt.Ok.bind (contains_ok hks.1.sl (by rw [ints_len]; dsimp only at hkl; omega) _ hmem) fun b P ⟨eP, eb⟩ => ?_
    subst eP; subst eb
    have hO := hN.gr gO
    unfold r7_j0
    refine Lt.Ok.neg (by simp) (Lt.Ok.bind (do_ok (k := k) hO hY hs) fun r Q ⟨hr, pv3, t3, hQ, sQ⟩ => ?_)
    rw [d5] at hr hQ
    dsimp only at hr hQ ⊢
    subst hr
    dsimp only
    refine Lt.Ok.pos (strEq_self _) (Lt.Ok.pos (by omega) (is (at_ok hQ hX) (Lt.Ok.pos rfl ?_)))
    dsimp only
    refine Lt.Ok.bind (state_ok (k := k) hQ hX) fun st4 R ⟨gR, est4⟩ => ?_
    dsimp only at est4 ⊢
    rw [est4, est2]
    refine Lt.Ok.pos (strEq_self _) ?_
    rw [app13]
    exact Lt.Ok.ret rfl
  · have hz' : r.2 ≠ 0 := by rw [hr]; exact hz
    obtain ⟨d1, d2⟩ := Chs.do_not hz
    rw [d1] at hF hX
    have hr1 : r.1 = ByteArray.mk #[] := by rw [hr]; exact d2
    dsimp only
    refine Lt.Ok.pos hz' (Lt.Ok.pos (by rw [hr1]; exact strEq_self _) (is (at_ok hF hC) (Lt.Ok.pos rfl ?_)))
    dsimp only
    refine Lt.Ok.bind (state_ok (k := k) hF hC) fun st2 G ⟨gG, est2⟩ => ?_
    dsimp only at est2 ⊢
    rw [est2, est]
    refine Lt.Ok.pos (strEq_self _) ?_
    rw [app13]
    exact Lt.Ok.ret rfl
theorem encAct : B.EncP 1048576 (.pair (.int .i64) (.pair (.int .i64) (.pair (.int .i64) (.pair .str .unit)))) ActT (fun a => True ∧ True ∧ True ∧ a.2.2.2.size ≤ 1048576) :=
  B.encP_pair B.encP_int (B.encP_pair B.encP_int (B.encP_pair B.encP_int (B.encP_unit B.encP_str)))
theorem lawCall7 (H : Hp) (xs : List AV) (_ : NoOwn H) (h : B.RdAs 1048576 H [.sl (.pair (.int .i64) (.pair (.int .i64) (.pair (.int .i64) (.pair .str .unit)))), .str] xs) : ∃ H1, CallSim Tryz.prog 7 xs H (.bool true) H1 := by
  obtain ⟨x, _, rfl, hx, y, _, rfl, hy, rfl⟩ := h
  obtain ⟨v, l, rfl, hv, _, hb⟩ := B.rd_slP encAct (by decide) hx
  obtain ⟨a0, e0, hs⟩ : B.Rd 1048576 H .str [y] := hy
  injection e0 with e0
  subst e0
  obtain ⟨b, H1, h1, rfl⟩ := backLaw (k := 18) hv (fun a ha => (hb a ha).2.2.2) a0 hs
  exact ⟨H1, sim7 (happ := appASim 20) h1⟩
end Go.Lt.P10
