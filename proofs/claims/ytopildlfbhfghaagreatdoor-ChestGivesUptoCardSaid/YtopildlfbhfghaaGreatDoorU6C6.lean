/- PLAIN LAWS OF WHAT IS COMPUTED, for the statement 'ChestGives'. Nothing is asked of the input. -/
import Derived.Test.YtopildlfbhfghaaGreatDoorU6CWb
import Derived.Test.YtopildlfbhfghaaGreatDoorU6CUm
import Derived.Test.YtopildlfbhfghaaGreatDoorLB
set_option linter.unusedVariables false
set_option linter.unusedSimpArgs false
set_option maxHeartbeats 4000000
namespace Go.Lt.P10
open Go Go.Lt Go.Proofs
theorem smI_set : ∀ (l : List Int) (i : Nat) (h : i < l.length) (n : Int), smI (l.set i n) = smI l - l[i] + n
 | x :: l, 0, _, n => by simp [smI]; omega
 | x :: l, i + 1, h, n => by
  simp only [List.set_cons_succ, smI, List.getElem_cons_succ]
  rw [smI_set l i (by simpa using h) n]; omega
def orderLn (a : ByteArray) : ByteArray := (ByteArray.mk #[111, 114, 100, 101, 114, 32]) ++ a
theorem words_order (a : ByteArray) : words (orderLn a) = wOrder :: words a := by
 have e : orderLn a = (wOrder ++ ByteArray.mk #[32]) ++ a := rfl
 rw [e, words_append, words_no (by decide)]; rfl
theorem did_order {s t : St} {a w : ByteArray} (h : doS s (orderLn a) = (.inr t, w)) (hs : s.Ok) : smI (stksS t) = smI (stksS s) - 1 := by
 have d := did_of h
 rcases d with ⟨_, _, _, hw, _⟩ | ⟨_, _, _, _, _, _, hw, _⟩ | ⟨b, i, hw, hi, h0, ho, ht⟩ | ⟨_, _, _, _, hw, _⟩ | ⟨_, _, _, _, hw, _⟩
 ·rw [words_order] at hw; exact absurd (cons_ne hw) (by decide +kernel)
 ·rw [words_order] at hw; exact absurd (cons_ne hw) (by decide +kernel)
 ·have hlt := find_lt hi
  have e : stksS t = stksS (setStock s i (stock s i - 1)) := by rw [ht]; rfl
  rw [e, stks_set, smI_set _ _ (by rw [stks_len]; exact hlt), stks_get]
  omega
 ·rw [words_order] at hw; exact absurd (cons_ne hw) (by decide +kernel)
 ·rw [words_order] at hw; exact absurd (cons_ne hw) (by decide +kernel)
theorem sum_rng {s : St} (hs : s.Ok) : 0 ≤ smI (stksS s) ∧ smI (stksS s) ≤ 120 := by
 have h := smI_le20 (stksS s) fun x hx => by
  obtain ⟨y, hy, rfl⟩ := List.mem_map.1 hx
  exact hs.st y hy
 have l6 := hs.l6
 rw [stks_len] at h
 omega
theorem order_end {k : Nat} {H : Hp} {c : Nat} {pv : Sl} {C : Chs} {t : Nat} {a : ByteArray} {v : Int} (h : ChAt H c pv C t) (hC : C.Ok) (ha : a.size ≤ 1048576) (hv : v = smI (stksS (C.now C.at'))) :
  Lt.Ok (r6_j2 (appA (k + 2)) a c 0 v H) fun r _ => r = true := by
 unfold r6_j2
 have hst := hC.st _ hC.cur
 have hsr := sum_rng hst
 have z1 : (ByteArray.mk #[111, 114, 100, 101, 114, 32]).size = 6 := rfl
 refine Lt.Ok.ck (by omega) ?_
 have e : (ByteArray.mk #[111, 114, 100, 101, 114, 32]) ++ a = orderLn a := rfl
 rw [e]
 have hbig : (orderLn a).size ≤ 4194304 := by unfold orderLn; rw [ByteArray.size_append]; omega
 refine Lt.Ok.bind (do_ok (k := k) h hC (line := orderLn a) hbig) fun rd G ⟨hr, pv', t', hG, sG⟩ => ?_
 have hD := Chs.do_ok hC (orderLn a)
 dsimp only
 refine Lt.Ok.bind (r31_ok (k := k) hG hD) fun q J ⟨gJ, hq⟩ => ?_
 subst hq
 try dsimp only
 refine Lt.Ok.pos rfl ?_
 rw [hr]
 by_cases hz : (C.do (orderLn a)).2.2 = 0
 ·obtain ⟨w, hw⟩ := Chs.do_did hC hz
  have hs := did_order hw hst
  refine Lt.Ok.pos hz (Lt.Ok.pos (by rw [hs, hv, w64_id (by omega) (by omega)]) ?_)
  rw [app34]
  exact Lt.Ok.ret rfl
 ·refine Lt.Ok.neg hz (Lt.Ok.pos hz (Lt.Ok.pos (by rw [(Chs.do_not hz).1, hv]) ?_))
  rw [app34]
  exact Lt.Ok.ret rfl
theorem givesLaw {k : Nat} {H : Hp} {v : Sl} {l : List ActT} {a b : ByteArray} {n : Int} (hv : SL H v l) (hl : ∀ x ∈ l, x.2.2.2.size ≤ 4194304) (ha : a.size ≤ 1048576) (hb : b.size ≤ 1048576) :
  Lt.Ok (r6 (appA (k + 2)) v a b n H) fun r _ => r = true := by
 unfold r6
 have e12 : ∃ m : Nat, m < 12 ∧ w64 (Int.tmod (IntKind.wrap .u64 n) 12) = (m : Int) := by
  obtain ⟨_, q, hq, e⟩ := umod n (n := 12) (by omega) (by omega)
  rw [wrapU_id (n := ((12 : Nat) : Int)) (by omega) (by omega)] at e
  exact ⟨q, hq, e⟩
 obtain ⟨m, hm, e12⟩ := e12
 rw [e12]
 refine Lt.Ok.bind (played_ok (k := k) hv hl) fun r A ⟨h0, gA, hc, pv, C, t, hA, hC, hp⟩ => ?_
 obtain ⟨c, o⟩ := r
 dsimp only at h0 hA ⊢
 subst h0
 have hst := hC.st _ hC.cur
 have hsr := sum_rng hst
 refine Lt.Ok.bind (r31_ok (k := k) hA hC) fun q B ⟨gB, hq⟩ => ?_
 subst hq
 dsimp only
 have hB := hA.gr gB
 refine Lt.Ok.pos rfl (Lt.Ok.bind (r32_ok (k := k) hB hC) fun g D ⟨gD, hg1, hg2⟩ => ?_)
 obtain ⟨gv, gok⟩ := g
 dsimp only at hg1 hg2 ⊢
 subst hg1
 have hD := hB.gr gD
 have hi := itoa_words (n := (m : Int)) (by omega) (by omega)
 have z1 : (ByteArray.mk #[103, 105, 118, 101, 32]).size = 5 := rfl
 have z2 : (ByteArray.mk #[32]).size = 1 := rfl
 refine Lt.Ok.pos ?_ (Lt.Ok.ck (by omega) (Lt.Ok.ck (by simp only [ByteArray.size_append]; omega) (Lt.Ok.ck (by simp only [ByteArray.size_append]; omega) (Lt.Ok.ck (by simp only [ByteArray.size_append]; omega) ?_))))
 ·by_cases hl : (C.now C.at').leaves = []
  ·simp [hl]
  ·have := List.length_pos_iff.2 hl
   rw [decide_eq_true hl, decide_eq_true (by omega)]; rfl
 rw [app33]
 unfold itoaP
 rw [if_pos (by omega)]
 refine Lt.Ok.ld rfl (Lt.Ok.ld rfl (Lt.Ok.ck (by simp only [ByteArray.size_append]; omega) ?_))
 have el : ((((((ByteArray.mk #[103, 105, 118, 101, 32]) ++ a) ++ (ByteArray.mk #[32])) ++ b) ++ (ByteArray.mk #[32])) ++ itoaA (m : Int)) = giveLn a b (m : Int) := by
  apply Lb_inj
  unfold giveLn sp1
  simp only [Lb_app, List.append_assoc]
 try dsimp only
 rw [el]
 have hbig : (giveLn a b (m : Int)).size ≤ 4194304 := by unfold giveLn sp1; simp only [ByteArray.size_append]; omega
 refine Lt.Ok.bind (do_ok (k := k) hD hC (line := giveLn a b (m : Int)) hbig) fun rd G ⟨hr, pv', t', hG, sG⟩ => ?_
 have hC2 := Chs.do_ok hC (giveLn a b (m : Int))
 dsimp only
 refine Lt.Ok.bind (r31_ok (k := k) hG hC2) fun q J ⟨gJ, hq⟩ => ?_
 subst hq
 try dsimp only
 refine Lt.Ok.pos rfl ?_
 rw [hr]
 have hJ := hG.gr gJ
 unfold r6_j1
 by_cases hz : (C.do (giveLn a b (m : Int))).2.2 = 0
 ·obtain ⟨w, hw⟩ := Chs.do_did hC hz
  obtain ⟨i, j, fi, fj, hij, hm1, hd, ht⟩ := did_give (by omega) (by omega) hw
  have li := find_lt fi
  have lj := find_lt fj
  have gave := stks_gave li lj (m : Int)
  rw [← ht] at gave
  have li2 : i < (stksS (C.now C.at')).length := by rw [stks_len]; exact li
  have lj2 : j < (stksS (C.now C.at')).length := by rw [stks_len]; exact lj
  have hd2 : 2 * (m : Int) ≤ (stksS (C.now C.at')).getD i 0 - (stksS (C.now C.at')).getD j 0 := by rw [stks_getD li, stks_getD lj]; exact hd
  have hsum := gave_sum li2 lj2 hij (m := (m : Int))
  rw [← gave] at hsum
  have hgap : gapL (stksS ((C.do (giveLn a b (m : Int))).1.now (C.do (giveLn a b (m : Int))).1.at')) ≤ gapL (stksS (C.now C.at')) := by
   rw [gave]; exact gave_gap li2 lj2 hij (by omega) hd2
  have hne : (C.now C.at').leaves ≠ [] := fun e => by rw [e] at li; simp at li
  have hne2 : ((C.do (giveLn a b (m : Int))).1.now (C.do (giveLn a b (m : Int))).1.at').leaves ≠ [] := fun e => by
   have := congrArg List.length gave
   unfold gaveL at this
   rw [List.length_set, List.length_set, stks_len, stks_len, e] at this
   simp at this; omega
  have hab : strEq a b = false := by
   cases h : strEq a b with
   | false => rfl
   | true => have e : a = b := strEq_iff.1 h
             subst e
             rw [fi] at fj
             injection fj with fj
             exact absurd fj hij
  refine Lt.Ok.neg (by simp [hsum]) (Lt.Ok.pos hz ?_)
  refine Lt.Ok.bind (r32_ok (k := k) hJ hC2) fun g2 M ⟨gM, k1, k2⟩ => ?_
  obtain ⟨gv2, gok2⟩ := g2
  dsimp only at k1 k2 ⊢
  subst k1
  refine Lt.Ok.pos (by simp [hne2]) (Lt.Ok.neg (by omega) (Lt.Ok.neg (by rw [hab]; simp) ?_))
  rw [k2 hne2, hg2 hne]
  unfold r6_j0
  refine Lt.Ok.neg ?_ ?_
  ·have : ¬ gapL (stkS (C.now C.at')) < gapL (stkS ((C.do (giveLn a b (m : Int))).1.now (C.do (giveLn a b (m : Int))).1.at')) := by
    have : gapL (stkS ((C.do (giveLn a b (m : Int))).1.now (C.do (giveLn a b (m : Int))).1.at')) ≤ gapL (stkS (C.now C.at')) := hgap
    omega
   simp [this]
  ·exact order_end (k := k) (hJ.gr gM) hC2 ha hsum.symm
 ·have en := (Chs.do_not hz).1
  refine Lt.Ok.neg (by rw [en]; simp) (Lt.Ok.neg hz ?_)
  exact order_end (k := k) hJ hC2 ha (by rw [en])
theorem encAct6 : B.EncP 1048576 (.pair (.int .i64) (.pair (.int .i64) (.pair (.int .i64) (.pair .str .unit)))) ActT (fun a => True ∧ True ∧ True ∧ a.2.2.2.size ≤ 1048576) :=
 B.encP_pair B.encP_int (B.encP_pair B.encP_int (B.encP_pair B.encP_int (B.encP_unit B.encP_str)))
theorem lawCall6 (H : Hp) (xs : List AV) (_ : NoOwn H) (h : B.RdAs 1048576 H [.sl (.pair (.int .i64) (.pair (.int .i64) (.pair (.int .i64) (.pair .str .unit)))), .str, .str, .int .i64] xs) : ∃ H1, CallSim Tryz.prog 6 xs H (.bool true) H1 := by
 obtain ⟨x, _, rfl, hx, y, _, rfl, ⟨a, hy, ha⟩, z, _, rfl, ⟨b, hz, hb⟩, u, _, rfl, ⟨n, hu, _⟩, rfl⟩ := h
 obtain ⟨v, l, rfl, hv, _, hl⟩ := B.rd_slP encAct6 (by decide) hx
 injection hy with hy _
 injection hz with hz _
 injection hu with hu _
 subst hy; subst hz; subst hu
 obtain ⟨b, H1, h1, rfl⟩ := givesLaw (k := 18) hv (fun a ha => Nat.le_trans (hl a ha).2.2.2 (by decide)) ha hb
 exact ⟨H1, sim6 (happ := appASim 20) h1⟩
end Go.Lt.P10
