/- PLAIN LAWS OF WHAT IS COMPUTED, for the statement 'TopGap'. Nothing is asked of the input. -/
import Derived.Test.YtopildlfbhfghaaGreatDoorU4CMv
import Derived.Test.YtopildlfbhfghaaGreatDoorU4CGi
import Derived.Test.YtopildlfbhfghaaGreatDoorLB
set_option linter.unusedVariables false
set_option linter.unusedSimpArgs false
set_option maxHeartbeats 4000000
namespace Go.Lt.P10
open Go Go.Lt Go.Proofs
theorem gap_asked (s : St) : askV f0 wGap wGap (fGap s) = if s.leaves = [] then (ByteArray.mk #[], 4) else (wGap ++ (sp1 ++ itoaA (gapL (stkS s))), 0) := by
  unfold askV
  have e : readS f0 wGap = some ([], []) := by decide +kernel
  rw [e]
  dsimp only
  unfold fGap
  by_cases h : s.leaves = []
  · rw [if_pos h, if_pos h]; rfl
  · rw [if_neg h, if_neg h]
    exact congrArg (fun x => (x, (0 : Int))) (join_two _ _)
theorem copied {B : Hp} {x y z w : Int} {α : Type} {Q : α → Hp → Prop} {f : Hp → Option (α × Hp)} (k : ∀ D, Gr B D → Lt.Ok (f D) Q) : Lt.Ok (((B.push (.cells [.int .i64 0, .int .i64 0, .int .i64 0, .int .i64 0] false)).sts B.n 0 [.int .i64 x, .int .i64 y, .int .i64 z, .int .i64 w]).bind f) Q :=
  Lt.Ok.alo (.nil B) fun D g _ => k D g
theorem gap_end {k : Nat} {H : Hp} {c : Nat} {pv : Sl} {C : Chs} {t n0 : Nat} {a b : ByteArray} {n : Int} {vn vs : Sl} (h : ChAt H c pv C t) (hC : C.Ok) (hc0 : c < n0) (hp0 : pv.b < n0) (hn : SLn n0 H vn (nmsS (C.now C.at'))) (hs : SLn n0 H vs (stksS (C.now C.at'))) (hl : (C.now C.at').leaves ≠ []) (ha : a.size ≤ 1048576) (hb : b.size ≤ 1048576) :
    Lt.Ok (r4_j0 (appA (k + 2)) a b n c 0 vn vs false H) fun r _ => r = true := by
  have hst := hC.st _ hC.cur
  unfold r4_j0
  have e12 : ∃ m : Nat, m < 12 ∧ w64 (Int.tmod (IntKind.wrap .u64 n) 12) = (m : Int) := by
    obtain ⟨_, q, hq, e⟩ := umod n (n := 12) (by omega) (by omega)
    rw [wrapU_id (n := ((12 : Nat) : Int)) (by omega) (by omega)] at e
    exact ⟨q, hq, e⟩
  obtain ⟨m, hm, e12⟩ := e12
  rw [e12]
  have hi := itoa_words (n := (m : Int)) (by omega) (by omega)
  have z1 : (ByteArray.mk #[103, 105, 118, 101, 32]).size = 5 := rfl
  have z2 : (ByteArray.mk #[32]).size = 1 := rfl
  refine Lt.Ok.neg (by simp) (Lt.Ok.ck (by omega) (Lt.Ok.ck (by simp only [ByteArray.size_append]; omega) (Lt.Ok.ck (by simp only [ByteArray.size_append]; omega) ?_)))
  have g1 := Gr.push H (.cells [.int .i64 (m : Int)] false)
  refine Lt.Ok.bind (words1_ok (k := k + 1) (one_cell (m : Int)) (by omega) (by omega)) fun w A ⟨gA, hw⟩ => ?_
  dsimp only
  subst hw
  refine Lt.Ok.ck (by simp only [ByteArray.size_append]; omega) ?_
  have gHA := g1.trans gA
  have hA := h.gr gHA
  have hnA := hn.gr gHA
  have hsA := hs.gr gHA
  have hbig : (giveLn a b (m : Int)).size ≤ 4194304 := by unfold giveLn sp1; simp only [ByteArray.size_append]; omega
  have l6 := hst.l6
  have hlen := List.length_pos_iff.2 hl
  refine Lt.Ok.bind (do_ok (k := k) hA hC (line := giveLn a b (m : Int)) hbig) fun rd G ⟨hr, pv', t', hG, sG⟩ => ?_
  have hD := Chs.do_ok hC (giveLn a b (m : Int))
  dsimp only
  have hnG := SLn.sp hnA sG hc0 hp0
  have hsG := SLn.sp hsA sG hc0 hp0
  refine Lt.Ok.bind (lread_ok (k := k + 1) hG hD) fun p8 B ⟨gB, q1, q2, q3, q4, q5⟩ => ?_
  obtain ⟨n2, s2, o2, x0, x1, x2, x3, f2⟩ := p8
  dsimp only at q1 q2 q3 q4 q5 ⊢
  refine copied fun E gE => ?_
  have hnE := (hnG.gr gB).gr gE
  have hsE := (hsG.gr gB).gr gE
  have q2E := q2.gr gE
  have sl1 := stks_len (C.now C.at')
  refine Lt.Ok.ite (fun hne => ?_) fun hz => ?_
  · rw [hr] at hne
    rw [(Chs.do_not hne).1] at q2E
    refine Lt.Ok.bind (r21_ok q2E.1 hsE.1 (by omega)) fun r F ⟨eF, hr2⟩ => ?_
    refine Lt.Ok.pos (hr2.2 rfl) ?_
    rw [app16]
    exact Lt.Ok.ret rfl
  · rw [hr] at hz
    have hz : (C.do (giveLn a b (m : Int))).2.2 = 0 := by simpa using hz
    obtain ⟨w, hw⟩ := Chs.do_did hC hz
    obtain ⟨i, j, fi, fj, hij, hm1, hd, ht⟩ := did_give (by omega) (by omega) hw
    have li := find_lt fi
    have lj := find_lt fj
    have hst2 := hD.st _ hD.cur
    have gave := stks_gave li lj (m : Int)
    rw [← ht] at gave
    have l2 : ((C.do (giveLn a b (m : Int))).1.now (C.do (giveLn a b (m : Int))).1.at').leaves.length = (C.now C.at').leaves.length := by
      have := congrArg List.length gave
      unfold gaveL at this
      rw [List.length_set, List.length_set, stks_len, stks_len] at this
      exact this
    generalize hs' : (C.do (giveLn a b (m : Int))).1.now (C.do (giveLn a b (m : Int))).1.at' = s' at *
    generalize C.now C.at' = s at *
    have gx : Good (stksS s).length (stksS s) := stkS_good hst hl
    have gy : Good (stksS s).length (stksS s') := by
      have := stkS_good hst2 (fun e => by rw [e] at l2; simp at l2; omega)
      have e : (stksS s').length = (stksS s).length := by rw [stks_len, stks_len, l2]
      rw [← e]; exact this
    have hd2 : 2 * (m : Int) ≤ (stksS s).getD i 0 - (stksS s).getD j 0 := by rw [stks_getD li, stks_getD lj]; exact hd
    have li2 : i < (stksS s).length := by rw [stks_len]; exact li
    have lj2 : j < (stksS s).length := by rw [stks_len]; exact lj
    have e18 : ∀ v H, r18 v H = cloneR 1 v H := fun _ _ => rfl
    rw [e18]
    refine Lt.Ok.bind (clone_ok hsE.1 (by omega) rfl) fun v1 F ⟨gF, hv1, _, _⟩ => ?_
    dsimp only
    rw [e18]
    refine Lt.Ok.bind (clone_ok (q2E.gr gF).1 (by rw [stks_len]; omega) rfl) fun v2 J ⟨gJ, hv2, _, _⟩ => ?_
    dsimp only
    refine Lt.Ok.bind (r22_ok (k := k) (hv1.gr gJ) hv2 gx gy (fun t => by rw [gave]; exact gave_hin li2 lj2 hij (by omega) hd2 t) (by rw [gave]; exact (gave_sum li2 lj2 hij).symm)) fun u L ⟨gL, hu⟩ => ?_
    dsimp only
    have gEL := gF.trans (gJ.trans gL)
    refine Lt.Ok.bind (r23_ok (hnE.gr gEL).1 (by rw [nms_len]; omega) a) fun ia M ⟨gM, ha'⟩ => ?_
    dsimp only
    refine Lt.Ok.bind (r23_ok ((hnE.gr gEL).gr gM).1 (by rw [nms_len]; omega) b) fun ib N ⟨gN, hb'⟩ => ?_
    dsimp only
    rw [find_nms, fi] at ha'
    rw [find_nms, fj] at hb'
    subst ha'; subst hb'
    have gEN := gEL.trans (gM.trans gN)
    have gp := Gr.push N (.cells [.int .i64 (i : Int), .int .i64 (j : Int), .int .i64 (m : Int)] false)
    have hgv : SL (N.push (.cells [.int .i64 (i : Int), .int .i64 (j : Int), .int .i64 (m : Int)] false)) ⟨false, N.n, 0, 1, 1, 0⟩ [((i : Int), (j : Int), (m : Int))] := .of_get (ro := false) (Hp.get_push_new _ _) rfl rfl (Nat.le_refl _) (.inl rfl) rfl
    refine Lt.Ok.bind (r24_ok (hsE.gr (gEN.trans gp)).1 (fun e => by rw [e] at sl1; simp at sl1; omega) (q2E.gr (gEN.trans gp)).1 hgv li2 lj2 (by omega) (by rw [stks_len]; omega)) fun z O ⟨gO, hz1, hz2⟩ => ?_
    have hz1 := hz1.2 ⟨⟨gx, gy⟩, ⟨hij, by omega, by omega, hd2⟩, by rw [gave]; rfl⟩
    dsimp only
    refine Lt.Ok.pos (by rw [hu]) (Lt.Ok.pos (by rw [hu]) (Lt.Ok.pos hz1 (Lt.Ok.pos (hz2 hz1) ?_)))
    rw [app16]
    exact Lt.Ok.ret rfl
theorem topGapLaw {k : Nat} {H : Hp} {v : Sl} {l : List ByteArray} {a b : ByteArray} {n : Int} (hv : SL H v l) (hl : ∀ x ∈ l, x.size ≤ 1048576) (ha : a.size ≤ 1048576) (hb : b.size ≤ 1048576) :
    Lt.Ok (r4 (appA (k + 2)) v a b n H) fun r _ => r = true := by
  unfold r4
  refine Lt.Ok.bind (opened_ok (k := k) hv (fun x hx => Nat.le_trans (hl x hx) (by decide))) fun r A ⟨h0, gA, hc, pv, C, t, hA, hC, hp⟩ => ?_
  obtain ⟨c, o⟩ := r
  dsimp only at h0 hA ⊢
  subst h0
  refine Lt.Ok.bind (lread_ok (k := k + 1) hA hC) fun p2 B ⟨gB, q1, q2, q3, q4, q5⟩ => ?_
  obtain ⟨n2, s2, o2, x0, x1, x2, x3, f2⟩ := p2
  dsimp only at q1 q2 q3 q4 q5 ⊢
  refine copied fun D gD => ?_
  have hD := (hA.gr gB).gr gD
  have hst := hC.st _ hC.cur
  refine Lt.Ok.bind (ask_ok (k := k + 2) hD hC (text := wGap) fun b P hst' => ask_gap (k := k) hst' hst (by decide) (by decide +kernel)) fun r E ⟨gE, hr⟩ => ?_
  rw [gap_asked] at hr
  subst hr
  dsimp only
  have hnE := (q1.gr gD).gr gE
  have hsE := (q2.gr gD).gr gE
  have hl1 := hnE.1.len
  rw [nms_len] at hl1
  refine Lt.Ok.ite (fun hz => ?_) fun hz => ?_
  · have hne : (C.now C.at').leaves = [] := List.length_eq_zero_iff.1 (by omega)
    rw [if_pos hne]
    refine Lt.Ok.pos (by decide +kernel) (Lt.Ok.pos rfl ?_)
    rw [app16]
    exact Lt.Ok.ret rfl
  · have hne : (C.now C.at').leaves ≠ [] := fun e => hz (by rw [hl1, e]; rfl)
    rw [if_neg hne]
    have l6 := hst.l6
    have e18 : ∀ v H, r18 v H = cloneR 1 v H := fun _ _ => rfl
    rw [e18]
    refine Lt.Ok.bind (clone_ok hsE.1 (by rw [stks_len]; omega) rfl) fun w F ⟨gF, hw, _, _⟩ => ?_
    dsimp only
    refine Lt.Ok.bind (r17_ok (x := stkS (C.now C.at')) hw (stkS_good hst hne)) fun q G ⟨gG, hq⟩ => ?_
    subst hq
    dsimp only
    refine Lt.Ok.neg (by simp) (Lt.Ok.neg (by simp) ?_)
    have bl := gapL_le (stkS (C.now C.at')) (stkS_rng hst) (by rw [stkS_len]; omega)
    have b0 := gapL_nn (stkS (C.now C.at'))
    rw [stkS_len] at bl
    have hi := itoa_k (n := gapL (stkS (C.now C.at'))) b0 (by omega)
    have g1 := Gr.push G (.cells [.int .i64 (gapL (stkS (C.now C.at')))] false)
    refine Lt.Ok.bind (words1_ok (k := k + 1) (one_cell _) (by omega) (by omega)) fun w2 I ⟨gI, hw2⟩ => ?_
    dsimp only
    subst hw2
    have z1 : (ByteArray.mk #[103, 97, 112]).size = 3 := rfl
    have z2 : (ByteArray.mk #[32]).size = 1 := rfl
    refine Lt.Ok.ck (by simp only [ByteArray.size_append]; omega) ?_
    have gEI := ((gF.trans gG).trans g1).trans gI
    have e : strEq (wGap ++ (sp1 ++ itoaA (gapL (stkS (C.now C.at'))))) ((ByteArray.mk #[103, 97, 112]) ++ (ByteArray.mk #[32] ++ itoaA (gapL (stkS (C.now C.at'))))) = true := strEq_iff.2 rfl
    rw [e]
    exact gap_end (k := k) ((hD.gr gE).gr gEI) hC (Nat.lt_of_lt_of_le hA.tc hA.tn) (Nat.lt_of_lt_of_le hA.tp hA.tn) (hnE.gr gEI) (hsE.gr gEI) hne ha hb
theorem lawCall4 (H : Hp) (xs : List AV) (_ : NoOwn H) (h : B.RdAs 1048576 H [.sl .str, .str, .str, .int .i64] xs) : ∃ H1, CallSim Tryz.prog 4 xs H (.bool true) H1 := by
  obtain ⟨x, _, rfl, hx, y, _, rfl, ⟨a, hy, ha⟩, z, _, rfl, ⟨b, hz, hb⟩, u, _, rfl, ⟨n, hu, _⟩, rfl⟩ := h
  obtain ⟨v, l, rfl, hv, _, hl⟩ := B.rd_slP (B.encP_str) (by decide) hx
  injection hy with hy _
  injection hz with hz _
  injection hu with hu _
  subst hy; subst hz; subst hu
  obtain ⟨b, H1, h1, rfl⟩ := topGapLaw (k := 18) hv hl ha hb
  exact ⟨H1, sim4 (happ := appASim 20) h1⟩
end Go.Lt.P10
