/- PLAIN LAWS OF WHAT IS COMPUTED, for the statement 'PairsRounds'. Nothing is asked of the input. -/
import Derived.Test.YthmhdbmpeepmaaaU19URrE
import Derived.Test.YthmhdbmpeepmaaaU19URrL
import Derived.Test.YthmhdbmpeepmaaaU19URrN
import Derived.Test.YthmhdbmpeepmaaaU19UEqP
import Derived.Test.YthmhdbmpeepmaaaU19UAwk
set_option linter.unusedVariables false
set_option linter.unusedSimpArgs false
namespace Go.Lt.P8
open Go Go.Lt Go.Proofs
theorem r69_ok {H : Hp} {v w : Sl} {us vs : List Sl} {ls ms : List (List Pr)} (hv : SLL H v us ls) (hw : SLL H w vs ms) (hl : ∀ l ∈ ls, l.length ≤ 1000) (hb : ls.length ≤ 1000000) : Ok (r69 (app 10) v w (.fn 71 [] []) H) fun b H' => H' = H ∧ b = decide (ls = ms) := by
  unfold r69
  have h1 := hv.len
  have h2 := hw.len
  by_cases hl2 : ls.length = ms.length
  · refine Ok.neg (by omega) ?_
    rw [h1]
    refine Ok.loop (L := fun K (s : Int) H2 => r69_l0 (app 10) K w (.fn 71 [] []) v ls.length s H2) (fun m s H' => H' = H ∧ ∃ i : Nat, s = i ∧ i + m = ls.length ∧ ls.take i = ms.take i) ?_ FUEL ls.length 0 H (by unfold FUEL; omega) ⟨rfl, 0, rfl, by omega, rfl⟩
    rintro K m s H1 ⟨rfl, i, rfl, hm, ht⟩ ih
    try dsimp only at *
    rw [r69_l0]
    by_cases h : i < ls.length
    · refine Ok.pos (by omega) (Ok.ck (by omega) (Ok.ld (hv.ldSl (i := i) h) (Ok.ck (by omega) (Ok.ld (hw.ldSl (i := i) (by omega)) ?_))))
      have hc : Ok (callv (app 10) (.fn 71 [] []) [.sl (us[i]'(by rw [hv.vlen]; exact h)), .sl (vs[i]'(by rw [hw.vlen]; omega))] H1) fun r H' => H' = H1 ∧ r = .bool (decide (ls[i] = ms[i]'(by omega))) := by
        show Ok (((r42 _ _ H1).bind fun p1 => some (p1.1, p1.2)).map fun p => (AV.bool p.1, p.2)) _
        have hli := hl _ (List.getElem_mem h)
        obtain ⟨b, H', e, e1, e2⟩ := r42_ok (hv.get h) (hw.get (show i < ms.length by omega)) (by omega)
        subst e1 e2
        rw [e]
        exact Ok.ret ⟨rfl, rfl⟩
      refine Ok.bind hc fun r H2 ⟨e2, hr⟩ => ?_
      subst e2 hr
      refine Ok.ld rfl (Ok.ite (fun hc => ?_) fun hc => Ok.ret ⟨rfl, ?_⟩)
      · rw [w64_succ (by omega)]
        refine ih (m - 1) _ _ (by omega) ⟨rfl, i + 1, rfl, by omega, ?_⟩
        rw [List.take_succ_eq_append_getElem h, List.take_succ_eq_append_getElem (by omega), ht]
        congr 2
        exact of_decide_eq_true hc
      · symm
        rw [decide_eq_false_iff_not]
        rintro rfl
        exact hc (by simp)
    · refine Ok.neg (by omega) (Ok.ret ⟨rfl, ?_⟩)
      symm
      rw [decide_eq_true_iff]
      rw [List.take_of_length_le (by omega), List.take_of_length_le (by omega)] at ht
      exact ht
  · refine Ok.pos (by omega) (Ok.ret ⟨rfl, ?_⟩)
    symm
    rw [decide_eq_false_iff_not]
    rintro rfl
    exact hl2 rfl
theorem roundsLaw {n : Int} {H : Hp} {v : Sl} {vs : List Sl} {ls : List (List Pr)} (hv : SLL H v vs ls) (hb : ls.length < 9223372036854775808) : Ok (r19 (app 10) n v H) T := by
  unfold r19
  refine Ok.bind (r68_ok n H) fun ⟨w, e⟩ H1 ⟨g1, h1⟩ => ?_
  refine Ok.bind (r63_ok (hv.gr g1) hb) fun v2 H2 ⟨g2, ws, h2, _⟩ => ?_
  refine Ok.bind (r62_cut (n := n) (H0 := H) h2.sll) fun r H3 ⟨g3, hr⟩ => ?_
  subst hr
  dsimp only at h1 ⊢
  have bad : ¬ (1 ≤ n ∧ n ≤ 4) → Ok (r19_j0 (app 10) n v w e (if 1 ≤ n ∧ n ≤ 4 then (okR n.toNat ls, (0 : Int)) else (false, 2)).1 (if 1 ≤ n ∧ n ≤ 4 then (okR n.toNat ls, (0 : Int)) else (false, 2)).2 true H3) T := by
    intro hc
    rw [if_neg hc] at h1
    rw [if_neg hc]
    obtain ⟨rfl, rfl⟩ := Prod.mk.inj h1
    unfold r19_j0
    exact Ok.pos rfl (Ok.pos rfl (Ok.neg (by simp) (Ok.pos rfl (Ok.pos rfl (Ok.bind awake_ok fun b _ hb => Ok.ret hb)))))
  refine Ok.ite (fun hc => bad (by omega)) fun hc => ?_
  by_cases h4 : 4 < n
  · rw [decide_eq_true h4]; exact bad (by omega)
  rw [decide_eq_false h4, if_pos (show 1 ≤ n ∧ n ≤ 4 by omega)]
  rw [if_pos (by omega)] at h1
  obtain ⟨rfl, us, h1⟩ := h1
  obtain ⟨n, rfl⟩ : ∃ m : Nat, n = m := ⟨n.toNat, by omega⟩
  rw [Int.toNat_natCast] at h1 ⊢
  unfold r19_j0
  refine Ok.neg (by simp) (Ok.bind (r70_ok (by omega) (by omega) H3) fun x H4 ⟨g4, xs, hx⟩ => ?_)
  have gg := g2.trans (g3.trans g4)
  refine Ok.bind (r69_ok (h1.gr gg) hx (fun l hl => ?_) (by simp [roundsR]; omega)) fun b H5 ⟨e5, hb5⟩ => ?_
  · unfold roundsR at hl
    obtain ⟨r, hr, rfl⟩ := List.mem_map.1 hl
    have := rowB_len (condR (2 * n - 1) r) (2 * n) (2 * n)
    have hm2 : 2 * n * (2 * n) ≤ 8 * 8 := Nat.mul_le_mul (by omega) (by omega)
    omega
  · subst e5 hb5
    refine Ok.pos (by simp) (Ok.pos rfl (Ok.bind (r64_ok (by omega) (by omega) (hv.gr (g1.trans gg))) fun b H6 ⟨g6, hb6⟩ => ?_))
    subst hb6
    refine Ok.pos ?_ (Ok.pos rfl (Ok.bind awake_ok fun b _ hb => Ok.ret hb))
    unfold okR
    rw [isR_eq]
    simp
theorem lawCall19 (H : Hp) (xs : List AV) (_ : NoOwn H) (h : RdAs H [.int .i64, .sl (.sl (.rep 2 (.int .i64)))] xs) : ∃ H1, CallSim Try.prog 19 xs H (.bool true) H1 := by
  obtain ⟨x, _, rfl, hx, y, _, rfl, hy, rfl⟩ := h
  obtain ⟨a0, e0, _⟩ : Rd H (.int .i64) [x] := hx
  injection e0 with e0
  subst e0
  obtain ⟨v, vs, ls, rfl, hv, hb, _⟩ := rd_sll (enc_rep2 enc_int) hy
  obtain ⟨b, H1, h1, rfl⟩ := roundsLaw (n := a0) hv (by unfold maxLen at hb; omega)
  exact ⟨H1, sim19 (happ := appSim 10) h1⟩
end Go.Lt.P8
