/- PLAIN LAWS OF WHAT IS COMPUTED, for the statement 'PairsPins'. Nothing is asked of the input. -/
import Derived.Test.YthmhdbmpeepmaaaU10UPd
import Derived.Test.YthmhdbmpeepmaaaU10UOk
import Derived.Test.YthmhdbmpeepmaaaU10UIs2
set_option linter.unusedVariables false
set_option linter.unusedSimpArgs false
namespace Go.Lt.P8
open Go Go.Lt Go.Proofs
theorem r48_ok {H : Hp} {v w : Sl} {us vs : List Sl} {ls ms : List (List Int)} (hv : SLL H v us ls) (hw : SLL H w vs ms) (hl : ∀ l ∈ ls, l.length ≤ 1000) (hb : ls.length ≤ 1000000) : Ok (r48 (app 10) v w H) fun b H' => H' = H ∧ b = decide (ls = ms) := by
  unfold r48 r85
  have h1 := hv.len
  have h2 := hw.len
  refine Ok.bind (P := fun b H' => H' = H ∧ b = decide (ls = ms)) ?_ fun b H' h => Ok.ret h
  by_cases hl2 : ls.length = ms.length
  · refine Ok.neg (by omega) ?_
    rw [h1]
    refine Ok.loop (L := fun K (s : Int) H2 => r85_l0 (app 10) K w (.fn 25 [] []) v ls.length s H2) (fun m s H' => H' = H ∧ ∃ i : Nat, s = i ∧ i + m = ls.length ∧ ls.take i = ms.take i) ?_ FUEL ls.length 0 H (by unfold FUEL; omega) ⟨rfl, 0, rfl, by omega, rfl⟩
    rintro K m s H1 ⟨rfl, i, rfl, hm, ht⟩ ih
    try dsimp only at *
    rw [r85_l0]
    by_cases h : i < ls.length
    · refine Ok.pos (by omega) (Ok.ck (by omega) (Ok.ld (hv.ldSl (i := i) h) (Ok.ck (by omega) (Ok.ld (hw.ldSl (i := i) (by omega)) ?_))))
      have hc : Ok (callv (app 10) (.fn 25 [] []) [.sl (us[i]'(by rw [hv.vlen]; exact h)), .sl (vs[i]'(by rw [hw.vlen]; omega))] H1) fun r H' => H' = H1 ∧ r = .bool (decide (ls[i] = ms[i]'(by omega))) := by
        show Ok ((r25 _ _ H1).map fun p => (AV.bool p.1, p.2)) _
        rw [r25_spec (hv.get h).is.ints (hw.get (by omega)).is.ints (by have := hl _ (List.getElem_mem h); omega)]
        exact Ok.ret ⟨rfl, rfl⟩
      refine Ok.bind hc fun r H2 ⟨e2, hr⟩ => ?_
      subst e2 hr
      refine Ok.ld rfl (Ok.ite (fun hc => ?_) fun hc => Ok.ret ⟨rfl, ?_⟩)
      · rw [w64_succ (by omega)]
        refine ih (m - 1) _ _ (by omega) ⟨rfl, i + 1, rfl, by omega, ?_⟩
        rw [List.take_succ_eq_append_getElem h, List.take_succ_eq_append_getElem (by omega), ht]
        congr 2
        exact of_decide_eq_true hc
      · symm
        rw [decide_eq_false_iff_not]
        rintro rfl
        exact hc (by simp)
    · refine Ok.neg (by omega) (Ok.ret ⟨rfl, ?_⟩)
      symm
      rw [decide_eq_true_iff]
      rw [List.take_of_length_le (by omega), List.take_of_length_le (by omega)] at ht
      exact ht
  · refine Ok.pos (by omega) (Ok.ret ⟨rfl, ?_⟩)
    symm
    rw [decide_eq_false_iff_not]
    rintro rfl
    exact hl2 rfl
theorem pinsAll_mem {n : Nat} {l : List Int} (h : l ∈ pinsAll n) : l.length = n := by
  unfold pinsAll at h
  have := expand_mem (c := 0) (by simp) (List.mem_filter.1 h).1
  omega
theorem pinsLaw {n : Int} {row : List Int} {H : Hp} {v : Sl} (hv : SL H v row) (hl : row.length < 9223372036854775808) : Ok (r10 (app 10) v n H) T := by
  unfold r10
  have hlen := hv.len
  refine Ok.bind (r31_ok hv) fun v1 H1 ⟨g1, i1⟩ => ?_
  refine Ok.bind (r38_ok i1 (by simp; omega)) fun r H2 ⟨g2, hr⟩ => ?_
  subst hr
  refine Ok.bind (r47_ok n H2) fun ⟨p, f⟩ H3 ⟨g3, h3⟩ => ?_
  dsimp only
  have g13 := g1.trans (g2.trans g3)
  have last : ∀ H', Gr H3 H' → Ok (r10_j4 (app 10) n p f H') T := by
    intro H4 g4
    unfold r10_j4
    have bad : ¬ (1 ≤ n ∧ n ≤ 6) → Ok (r10_j2 (app 10) n p f true H4) T := by
      intro hc
      rw [if_neg hc] at h3
      obtain ⟨rfl, rfl⟩ := Prod.mk.inj h3
      unfold r10_j2
      exact Ok.pos rfl (Ok.pos rfl (Ok.pos rfl (Ok.bind awake_ok fun b _ hb => Ok.ret hb)))
    refine Ok.ite (fun hc => bad (by omega)) fun hc => ?_
    by_cases h6 : 6 < n
    · rw [decide_eq_true h6]; exact bad (by omega)
    rw [decide_eq_false h6]
    rw [if_pos (by omega)] at h3
    obtain ⟨hf, ws, hp⟩ := h3
    dsimp only at hf hp
    subst hf
    obtain ⟨n, rfl⟩ : ∃ m : Nat, n = m := ⟨n.toNat, by omega⟩
    unfold r10_j2
    refine Ok.neg (by simp) (Ok.bind (r49_ok (by omega) (by omega) H4) fun w H5 ⟨g5, us, hw⟩ => ?_)
    refine Ok.bind (r48_ok (hp.gr (g4.trans g5)) hw (fun l hl => ?_) ?_) fun b H6 ⟨e6, hb⟩ => ?_
    · have := pinsAll_mem hl
      simp only [Int.toNat_natCast] at this
      omega
    · unfold pinsAll
      refine Nat.le_trans (List.length_filter_le _ _) ?_
      rw [Int.toNat_natCast]
      exact Nat.le_trans (expand_small (by omega) (by omega)) (by omega)
    · subst e6 hb
      exact Ok.pos (by simp) (Ok.pos rfl (Ok.bind awake_ok fun b _ hb => Ok.ret hb))
  have bad : ¬ (1 ≤ row.length ∧ row.length ≤ 6) → Ok (r10_j1 (app 10) v n (if 1 ≤ (row.take 20).length ∧ (row.take 20).length ≤ 6 then (pinsF (row.take 20), (0 : Int)) else (false, 2)).1 (if 1 ≤ (row.take 20).length ∧ (row.take 20).length ≤ 6 then (pinsF (row.take 20), (0 : Int)) else (false, 2)).2 p f true H3) T := by
    intro hc
    rw [if_neg (by simp; omega)]
    unfold r10_j1
    refine Ok.pos rfl (Ok.neg (by simp) ?_)
    unfold r10_j0
    exact Ok.neg (by simp) (last _ (.refl _))
  refine Ok.ite (fun hc => bad (by omega)) fun hc => ?_
  by_cases h6 : 6 < (v.len : Int)
  · rw [decide_eq_true h6]; exact bad (by omega)
  rw [decide_eq_false h6]
  have ht : row.take 20 = row := List.take_of_length_le (by omega)
  rw [ht, if_pos (by omega)]
  unfold r10_j1
  refine Ok.neg (by simp) (Ok.bind (r45_ok (hv.gr g13) (by omega)) fun b H4 ⟨g4, hb⟩ => ?_)
  subst hb
  refine Ok.pos (by simp) ?_
  unfold r10_j3
  exact Ok.neg (by simp) (last _ g4)
theorem lawCall10 (H : Hp) (xs : List AV) (_ : NoOwn H) (h : RdAs H [.sl (.int .i64), .int .i64] xs) : ∃ H1, CallSim Try.prog 10 xs H (.bool true) H1 := by
  obtain ⟨y, _, rfl, hy, x, _, rfl, hx, rfl⟩ := h
  obtain ⟨a0, e0, _⟩ : Rd H (.int .i64) [x] := hx
  injection e0 with e0
  subst e0
  obtain ⟨v, row, rfl, hv, hb, _⟩ := rd_ints hy
  obtain ⟨b, H1, h1, rfl⟩ := pinsLaw (n := a0) hv.sl (by unfold maxLen at hb; omega)
  exact ⟨H1, sim10 (happ := appSim 10) h1⟩
end Go.Lt.P8
