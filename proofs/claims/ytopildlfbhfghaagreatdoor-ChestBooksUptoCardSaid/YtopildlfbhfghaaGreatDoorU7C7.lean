/- PLAIN LAWS OF WHAT IS COMPUTED, for the statement 'ChestBooks'. Nothing is asked of the input. -/
import Derived.Test.YtopildlfbhfghaaGreatDoorU7CGo
import Derived.Test.YtopildlfbhfghaaGreatDoorU7CPy
import Derived.Test.YtopildlfbhfghaaGreatDoorLB
set_option linter.unusedVariables false
set_option linter.unusedSimpArgs false
namespace Go.Lt.P10
open Go Go.Lt Go.Proofs
theorem ChAt.keepSp {H H' : Hp} {c d : Nat} {pv pw pw' : Sl} {C : Chs} {t : Nat} (h : ChAt H c pv C t) (s : Sp d pw.b pw'.b H H') (hd : t ≤ d) (hp : t ≤ pw.b) : ChAt H' c pv C t :=
  h.keep s.n fun b hb => s.e b (by have := h.tn; omega) (by omega) (by omega)
/-- slices.Equal of numbers that are the same -/
theorem equalI_ok {H : Hp} {v w : Sl} {l : List Int} (hv : SL H v l) (hw : SL H w l) (hb : l.length ≤ 1048577) : Lt.Ok (r21 v w H) fun r A => A = H ∧ r = true := by
  unfold r21
  have hl := hv.len
  have hl2 := hw.len
  refine Lt.Ok.neg (by omega) ?_
  refine Lt.Ok.loop (L := fun K (i : Int) A => r21_l0 K v w (v.len : Int) i A) (fun m i A => ∃ j : Nat, i = (j : Int) ∧ j + m = l.length ∧ A = H) ?_ FUEL l.length 0 H (by unfold FUEL; omega) ⟨0, rfl, by omega, rfl⟩
  rintro K m i A ⟨j, rfl, hj, rfl⟩ ih
  rw [r21_l0]
  refine Lt.Ok.ite (fun hlt => ?_) fun hlt => Lt.Ok.ret ⟨rfl, rfl⟩
  have hjl : j < l.length := by omega
  refine Lt.Ok.ck (by omega) (Lt.Ok.ld (hv.ldI (i := j) (j := 0) (n := l[j]) hjl rfl) (Lt.Ok.ck (by omega) (Lt.Ok.ld (hw.ldI (i := j) (j := 0) (n := l[j]) hjl rfl) ?_)))
  refine Lt.Ok.neg (by simp) ?_
  rw [w64_id (n := (j : Int) + 1) (by omega) (by omega)]
  exact ih (m - 1) _ A (by omega) ⟨j + 1, by omega, by omega, rfl⟩
theorem kids_at (C : Chs) (q p : Nat) : (⟨C.pages, q⟩ : Chs).kids p = C.kids p := rfl
theorem booksLaw {k : Nat} {H : Hp} {v : Sl} {l : List ActT} (hv : SL H v l) (hb : ∀ a ∈ l, a.2.2.2.size ≤ 1048576) : Lt.Ok (r7 (appA (k + 2)) v H) fun r _ => r = true := by
  unfold r7
  refine Lt.Ok.bind (played_ok (k := k) hv hb) fun r A ⟨h0, g, hc, pv, C, t, hA, hC, _⟩ => ?_
  obtain ⟨c, o⟩ := r
  dsimp only at h0 hA ⊢
  subst h0
  have hm := hC.most; have h1 := hC.one; have hcur := hC.cur
  have hbl : C.bytes.length ≤ 1000000 := by
    have := bytesP_len (C.pages.drop 1) fun p hp => by
      have hp := List.mem_of_mem_drop hp
      obtain ⟨j, hj, rfl⟩ := List.mem_iff_getElem.1 hp
      rw [chg_get hj]; exact chg_le hC hj
    rw [List.length_drop] at this
    unfold Chs.bytes
    omega
  refine Lt.Ok.bind (bytes_ok hA hC) fun b B ⟨gB, hbB⟩ => ?_
  dsimp only at hbB ⊢
  have hB := hA.gr gB
  have e37 : r37 b B = cloneR 1 b B := rfl
  rw [e37]
  refine Lt.Ok.bind (clone_ok hbB.1.sl (by omega) rfl) fun b2 D ⟨gD, hb2, _, _⟩ => ?_
  dsimp only at hb2 ⊢
  have hD := hB.gr gD
  have hrd : Chs.rd (C.bytes.length + 1) Chs.new C.bytes = some ⟨C.pages, 0⟩ := by
    rw [← Chs.rd_fuel (C.bytes.length + 1 + C.pages.length) _ _ (by omega)]
    exact Chs.rd_bytes hC (by omega)
  refine Lt.Ok.bind (read_ok (k := k) hb2 hbl) fun r E ⟨gE, hr⟩ => ?_
  rw [hrd] at hr
  obtain ⟨d, pw, t2, rfl, hd, hX, hdl, hpl⟩ := hr
  have hE := hD.gr gE
  have htD := hD.tn
  dsimp only
  refine Lt.Ok.neg (by simp) ?_
  simp only [AV.isp, AV.asP, Option.bind_some, if_true]
  refine is (at_ok hd hX) (Lt.Ok.neg (by simp) ?_)
  dsimp only
  refine Lt.Ok.bind (bytes_ok hd hX) fun b3 F ⟨gF, hb3⟩ => ?_
  dsimp only at hb3 ⊢
  have hXb : (⟨C.pages, 0⟩ : Chs).bytes = C.bytes := rfl
  rw [hXb] at hb3
  refine is (bEq_ok hb3.1.sl (hbB.1.sl.gr (gD.trans (gE.trans gF)))) ?_
  unfold r7_j0
  refine Lt.Ok.neg (by simp) ?_
  have hF := hE.gr gF
  have hdF := hd.gr gF
  refine Lt.Ok.loop (L := fun K (i : Int) D => r7_l1 (appA (k + 2)) K c 0 (.ptr d 0) i D) (fun m i' G => ∃ i q q' : Nat, i' = (i : Int) ∧ i + m = 200 ∧ q < C.pages.length ∧ q' < C.pages.length ∧ ChAt G c pv ⟨C.pages, q⟩ t ∧ ChAt G d pw ⟨C.pages, q'⟩ t2) ?_ FUEL 200 0 F (by unfold FUEL; omega) ⟨0, C.at', 0, rfl, rfl, hcur, by omega, hF, hdF⟩
  rintro K m i' G ⟨i, q, q', rfl, him, hq, hq', hG, hdG⟩ ih
  rw [r7_l1]
  have okq := Chs.ok_at hC hq
  have okq' := Chs.ok_at hC hq'
  refine Lt.Ok.ite (fun hlt => ?_) fun hlt => ?_
  · refine Lt.Ok.bind (go2_ok (k := k + 1) hG okq (i : Int)) fun r1 I ⟨hr1, hI, hIn, hIo⟩ => ?_
    have hdI : ChAt I d pw ⟨C.pages, q'⟩ t2 := hdG.offCh okq' hG.get (by have := hG.tc; omega) hIn hIo
    simp only [AV.asP, Option.bind_some]
    refine Lt.Ok.bind (go_ok (k := k + 1) hdI okq' (i : Int)) fun r2 J ⟨hr2, hdJ, sJ⟩ => ?_
    have hJ := hI.keepSp sJ (by omega) (by omega)
    dsimp only at hr1 hr2 hdJ hJ ⊢
    by_cases hin : i < C.pages.length
    · have e1 : Chs.go ⟨C.pages, q⟩ (i : Int) = (⟨C.pages, i⟩, 0) := Chs.go_in ⟨C.pages, q⟩ hin
      have e2 : Chs.go ⟨C.pages, q'⟩ (i : Int) = (⟨C.pages, i⟩, 0) := Chs.go_in ⟨C.pages, q'⟩ hin
      rw [e1] at hr1 hJ
      rw [e2] at hr2 hdJ
      dsimp only at hr1 hr2 hJ hdJ
      subst hr1; subst hr2
      have oki := Chs.ok_at hC hin
      refine Lt.Ok.neg (by simp) (Lt.Ok.neg (by simp) (Lt.Ok.bind (state_ok (k := k) hJ oki) fun s1 L ⟨gL, es1⟩ => ?_))
      dsimp only at es1 ⊢
      refine Lt.Ok.bind (state_ok (k := k) (hdJ.gr gL) oki) fun s2 M ⟨gM, es2⟩ => ?_
      dsimp only at es2 ⊢
      have gLM := gL.trans gM
      rw [es1, es2]
      refine Lt.Ok.pos (strEq_self _) (Lt.Ok.bind (path_ok (hJ.gr gLM) oki) fun p1 N ⟨gN, hp1⟩ => ?_)
      dsimp only at hp1 ⊢
      refine Lt.Ok.bind (path_ok (hdJ.gr (gLM.trans gN)) oki) fun p2 O ⟨gO, hp2⟩ => ?_
      dsimp only at hp2 ⊢
      have hwl := Chs.way_len oki i
      have hpl : ((⟨C.pages, i⟩ : Chs).path i).length ≤ 1048577 := by
        unfold Chs.path; rw [List.length_map]; dsimp only at hwl; omega
      refine Lt.Ok.bind (equal_ok (hp1.1.sl.gr gO) hp2.1.sl hpl) fun x P ⟨eP, ex⟩ => ?_
      subst eP; subst ex
      have gP := (gLM.trans gN).trans gO
      refine Lt.Ok.pos rfl (Lt.Ok.bind (kids_ok (hJ.gr gP) oki) fun k1 Q ⟨gQ, hk1⟩ => ?_)
      dsimp only at hk1 ⊢
      refine Lt.Ok.bind (kids_ok (hdJ.gr (gP.trans gQ)) oki) fun k2 R ⟨gR, hk2⟩ => ?_
      dsimp only at hk2 ⊢
      have hkl := kids_len (⟨C.pages, i⟩ : Chs) i
      dsimp only at hkl
      refine Lt.Ok.bind (equalI_ok (hk1.1.sl.gr gR) hk2.1.sl (by rw [ints_len]; omega)) fun x S ⟨eS, ex⟩ => ?_
      subst eS; subst ex
      have gS := (gP.trans gQ).trans gR
      unfold r7_j2
      rw [w64_id (n := (i : Int) + 1) (by omega) (by omega)]
      exact Lt.Ok.neg (by simp) (ih (m - 1) _ S (by omega) ⟨i + 1, i, i, by omega, by omega, hin, hin, hJ.gr gS, hdJ.gr gS⟩)
    · have e1 : ∀ q, Chs.go ⟨C.pages, q⟩ (i : Int) = (⟨C.pages, q⟩, 2) := fun q => by unfold Chs.go; rw [if_neg (by dsimp only; omega)]
      rw [e1] at hr1 hr2
      dsimp only at hr1 hr2
      subst hr1; subst hr2
      refine Lt.Ok.neg (by simp) (Lt.Ok.pos (by simp) ?_)
      rw [app34]
      exact Lt.Ok.ret rfl
  · rw [app34]
    exact Lt.Ok.ret rfl
theorem encAct : B.EncP 1048576 (.pair (.int .i64) (.pair (.int .i64) (.pair (.int .i64) (.pair .str .unit)))) ActT (fun a => True ∧ True ∧ True ∧ a.2.2.2.size ≤ 1048576) :=
  B.encP_pair B.encP_int (B.encP_pair B.encP_int (B.encP_pair B.encP_int (B.encP_unit B.encP_str)))
theorem lawCall7 (H : Hp) (xs : List AV) (_ : NoOwn H) (h : B.RdAs 1048576 H [.sl (.pair (.int .i64) (.pair (.int .i64) (.pair (.int .i64) (.pair .str .unit))))] xs) : ∃ H1, CallSim Tryz.prog 7 xs H (.bool true) H1 := by
  obtain ⟨x, _, rfl, hx, rfl⟩ := h
  obtain ⟨v, l, rfl, hv, _, hb⟩ := B.rd_slP encAct (by decide) hx
  obtain ⟨b, H1, h1, rfl⟩ := booksLaw (k := 18) hv (fun a ha => (hb a ha).2.2.2)
  exact ⟨H1, sim7 (happ := appASim 20) h1⟩
end Go.Lt.P10
