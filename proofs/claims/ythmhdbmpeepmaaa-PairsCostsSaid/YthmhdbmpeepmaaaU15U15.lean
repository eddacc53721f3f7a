/- PLAIN LAWS OF WHAT IS COMPUTED, for the statement 'PairsCosts'. Nothing is asked of the input. -/
import Derived.Test.YthmhdbmpeepmaaaU15UCst
set_option linter.unusedVariables false
set_option linter.unusedSimpArgs false
namespace Go.Lt.P8
open Go Go.Lt Go.Proofs
theorem costs_end {p g : Int} {H : Hp} : Ok (r15_j4 (app 10) p g H) T := by
  unfold r15_j4
  refine Ok.bind (r27_ok p g H) fun ⟨w, e⟩ H1 ⟨g1, h1⟩ => ?_
  dsimp only at h1 ⊢
  by_cases hc : (p = 2 ∨ p = 3 ∨ p = 5 ∨ p = 7) ∧ 1 ≤ g ∧ g < p
  · rw [if_pos hc] at h1
    have hw := welch_pins p (by simp; omega) g (by simp; omega)
    rw [Bool.or_eq_true, decide_eq_true_iff] at hw
    have hw := hw.resolve_left (by omega)
    cases hl : welchF p g (p - 1).toNat 1 [] with
    | none =>
      rw [hl] at h1
      subst h1
      exact Ok.pos (by decide) (Ok.pos rfl (Ok.bind awake_ok fun b _ hb => Ok.ret hb))
    | some l =>
      rw [hl] at h1 hw
      obtain ⟨rfl, h1⟩ := h1
      simp only [Option.all_some, Bool.and_eq_true, decide_eq_true_eq] at hw
      obtain ⟨w1, w2, w3, w4⟩ := hw
      have hwl := h1.len
      refine Ok.neg (by decide) ?_
      obtain ⟨v2, H2, e2, g2, i2, _⟩ := r36_is h1.is (by omega)
      refine Ok.ld e2 (Ok.bind (r38_ok i2.sl (by omega)) fun r H3 ⟨g3, hr⟩ => ?_)
      subst hr
      dsimp only
      rw [if_pos (show 1 ≤ l.length ∧ l.length ≤ 6 from ⟨w3, w4⟩)]
      refine Ok.pos w1 (Ok.pos rfl (Ok.pos ?_ (Ok.bind awake_ok fun b _ hb => Ok.ret hb)))
      rw [w64_id (by omega) (by omega)]
      omega
  · rw [if_neg hc] at h1
    subst h1
    exact Ok.pos (by decide) (Ok.pos rfl (Ok.bind awake_ok fun b _ hb => Ok.ret hb))
theorem says60 {c : Nat} {Hb : Hp} {v : Sl} {row : List Int} (hv : SL Hb v row) (hc : Hb.ldSl c 0 = some v) (k : Nat) {H : Hp} (g : Gr Hb H) {x : Sl} {l : List Int} (hx : SL H x l) (hl : l.length ≤ 1000) :
    Ok (callv (app (k + 1)) (.fn 60 [] [.ptr c 0]) [.sl x] H) fun r H' => H' = H ∧ r = .bool (decide (l = row)) := by
  show Ok (((H.ldSl c 0).bind fun x1 => (r25 x x1 H).bind fun p2 => some (p2.1, p2.2)).map fun p => (AV.bool p.1, p.2)) _
  have e : H.ldSl c 0 = some v := by
    have := ldSl_eq hc
    simp [Hp.ldSl, g.ld this, AV.asSl]
  rw [e]
  simp only [Option.bind_some]
  rw [r25_spec hx.is.ints (hv.gr g).is.ints (by omega)]
  exact Ok.ret ⟨rfl, rfl⟩
/-- the same at a closure that looks at what stands below a heap -/
theorem r99_ok' {a : App} {fv : AV} {p : List Int → Bool} {Hb : Hp} (hp : ∀ H, Gr Hb H → ∀ x l, SL H x l → l.length ≤ 1000 → Ok (callv a fv [.sl x] H) fun r H' => H' = H ∧ r = .bool (p l)) {H : Hp} (gb : Gr Hb H) {v : Sl} {vs : List Sl} {ls : List (List Int)} (hv : SLL H v vs ls) (hl : ∀ l ∈ ls, l.length ≤ 1000) (hb : ls.length ≤ 1000000) :
    Ok (r59 a v fv H) fun b H' => H' = H ∧ b = ls.any p := by
  unfold r59 r99
  have hlen := hv.len
  rw [hlen]
  refine Ok.bind (P := fun i H' => H' = H ∧ decide (0 ≤ i) = ls.any p) ?_ fun i H' ⟨e, h⟩ => Ok.ret ⟨e, h⟩
  refine Ok.loop (L := fun K (s : Int) H' => r99_l0 a K v fv ls.length s H') (fun m s H' => H' = H ∧ ∃ i : Nat, s = i ∧ i + m = ls.length ∧ (ls.take i).any p = false) ?_ FUEL ls.length 0 H (by unfold FUEL; omega) ⟨rfl, 0, rfl, by omega, rfl⟩
  rintro K m s H1 ⟨rfl, i, rfl, hm, hi⟩ ih
  try dsimp only at *
  rw [r99_l0]
  by_cases h : i < ls.length
  · refine Ok.pos (by omega) (Ok.ck (by omega) (Ok.ld (hv.ldSl (i := i) h) ?_))
    refine Ok.bind (hp H1 gb _ _ (hv.get h) (hl _ (List.getElem_mem h))) fun r H2 ⟨e2, hr⟩ => ?_
    subst e2 hr
    refine Ok.ld rfl (Ok.ite (fun hc => Ok.ret ⟨rfl, ?_⟩) fun hc => ?_)
    · rw [decide_eq_true (by omega)]
      symm
      rw [List.any_eq_true]
      exact ⟨_, List.getElem_mem h, hc⟩
    · rw [w64_succ (by omega)]
      refine ih (m - 1) _ _ (by omega) ⟨rfl, i + 1, rfl, by omega, ?_⟩
      rw [List.take_succ_eq_append_getElem h, List.any_append, hi]
      simpa using hc
  · refine Ok.neg (by omega) (Ok.ret ⟨rfl, ?_⟩)
    rw [List.take_of_length_le (by omega)] at hi
    rw [hi]
    rfl
theorem costs_loop {n : Nat} (hn : n ∈ [1, 2, 3, 4, 5, 6]) {p g : Int} {c : Nat} {Hb H : Hp} {v w : Sl} {row : List Int} {ws : List Sl} (hv : SL Hb v row) (hc : Hb.ldSl c 0 = some v) (gb : Gr Hb H) (hw : SLL H w ws (pinsAll n)) :
    Ok (r15_j0 (app 10) n p g c w false H) T := by
  unfold r15_j0
  have hlen := hw.len
  obtain ⟨f1, f2⟩ := pinsAll_facts n hn
  have hn6 : 1 ≤ n ∧ n ≤ 6 := by simp at hn; omega
  have hcnt : (pinsAll n).length ≤ 46656 := by
    unfold pinsAll
    exact Nat.le_trans (List.length_filter_le _ _) (expand_small (by omega) (by omega))
  refine Ok.neg (by simp) ?_
  rw [hlen]
  refine Ok.loop (L := fun K (s : Int) H' => r15_l1 (app 10) K n p g c w w (pinsAll n).length s H') (fun m s H' => ∃ i : Nat, s = i ∧ i + m = (pinsAll n).length ∧ Gr H H') ?_ FUEL (pinsAll n).length 0 H (by unfold FUEL; omega) ⟨0, rfl, by omega, .refl _⟩
  rintro K m s H1 ⟨i, rfl, hm, g1⟩ ih
  try dsimp only at *
  rw [r15_l1]
  by_cases h : i < (pinsAll n).length
  · have hx := hw.get h
    obtain ⟨x1, x2⟩ := pinsAll_iff.1 (List.getElem_mem h)
    refine Ok.pos (by omega) (Ok.ck (by omega) (Ok.ld ((hw.gr g1).ldSl (i := i) h) ?_))
    obtain ⟨v2, H2, e2, g2, i2, _⟩ := r36_is (hx.gr g1).is (by omega)
    refine Ok.ld e2 (Ok.bind (r38_ok i2.sl (by omega)) fun r H3 ⟨g3, hr⟩ => ?_)
    subst hr
    dsimp only
    rw [if_pos (show 1 ≤ (pinsAll n)[i].length ∧ (pinsAll n)[i].length ≤ 6 by omega)]
    have g13 := g1.trans (g2.trans g3)
    have next : ∀ H', Gr H H' → Ok (r15_j2 (app 10) (fun v1_ v2_ v3_ v4_ v5_ v6_ v7_ v8_ H_ => r15_l1 (app 10) K v1_ v2_ v3_ v4_ v5_ v6_ v7_ v8_ H_) n p g c w w (pinsAll n).length i false H') T := by
      intro H' gg
      unfold r15_j2
      rw [w64_succ (by omega)]
      exact Ok.neg (by simp) (ih (m - 1) _ _ (by omega) ⟨i + 1, rfl, by omega, gg⟩)
    have hxl := hx.len
    refine Ok.pos x2 (Ok.neg (by simp) (Ok.neg (by omega) (Ok.ite (fun h0 => ?_) fun h0 => next _ g13)))
    obtain ⟨j, rfl⟩ : ∃ j, i = j + 1 := ⟨i - 1, by omega⟩
    have hy := hw.get (i := j) (by omega)
    obtain ⟨y1, _⟩ := pinsAll_iff.1 (List.getElem_mem (show j < (pinsAll n).length by omega))
    have ej : w64 (((j + 1 : Nat) : Int) - 1) = (j : Int) := by rw [w64_id (by omega) (by omega)]; omega
    rw [ej]
    refine Ok.ck (by omega) (Ok.ld ((hw.gr g13).ldSl (i := j) (by omega)) ?_)
    refine Ok.bind (r50_ok (hy.gr g13) (hx.gr g13) (by omega)) fun r H4 ⟨e4, hr⟩ => ?_
    subst e4 hr
    have := upB_get f1 j (by omega)
    rw [decide_eq_false (by omega)]
    exact next _ g13
  · have gg := gb.trans g1
    have hcell : H1.ldSl c 0 = some v := by
      have := ldSl_eq hc
      simp [Hp.ldSl, gg.ld this, AV.asSl]
    have hvl := hv.len
    refine Ok.neg (by omega) (Ok.ld hcell (Ok.ite (fun hl => ?_) fun _ => costs_end))
    have hrl : row.length = n := by omega
    refine Ok.ld hcell (Ok.bind (r31_ok (hv.gr gg)) fun v1 H2 ⟨g2, i2⟩ => ?_)
    rw [List.take_of_length_le (by omega)] at i2
    refine Ok.bind (r38_ok i2 (by omega)) fun r H3 ⟨g3, hr⟩ => ?_
    subst hr
    dsimp only
    rw [if_pos (show 1 ≤ row.length ∧ row.length ≤ 6 by omega)]
    have g23 := g2.trans g3
    refine Ok.neg (by simp) (Ok.bind (r99_ok' (Hb := Hb) (fun H gH x l hx hl => says60 hv hc 9 gH hx hl) (gg.trans g23) (hw.gr (g1.trans g23)) (fun l hl => ?_) (by omega)) fun b H4 ⟨e4, hb⟩ => ?_)
    · have := (pinsAll_iff.1 hl).1; omega
    · subst e4 hb
      have : (pinsAll n).any (fun l => decide (l = row)) = pinsF row := by
        rw [Bool.eq_iff_iff, List.any_eq_true]
        constructor
        · rintro ⟨l, hl, e⟩
          rw [decide_eq_true_iff] at e
          subst e
          exact (pinsAll_iff.1 hl).2
        · intro hp
          exact ⟨row, pinsAll_iff.2 ⟨hrl, hp⟩, by simp⟩
      unfold r15_j3
      dsimp only
      rw [this]
      exact Ok.neg (by simp) costs_end
theorem costsLaw {n p g : Int} {row : List Int} {H : Hp} {v : Sl} (hv : SL H v row) : Ok (r15 (app 10) n v p g H) T := by
  unfold r15
  have hu := u64_rng n
  obtain ⟨k, hk⟩ : ∃ k : Nat, Int.tmod (IntKind.wrap .u64 n) 6 = k ∧ k < 6 := by
    refine ⟨(Int.tmod (IntKind.wrap .u64 n) 6).toNat, ?_, ?_⟩
    · rw [Int.tmod_eq_emod_of_nonneg hu.1]; omega
    · rw [Int.tmod_eq_emod_of_nonneg hu.1]; omega
  have hw : w64 (1 + w64 (Int.tmod (IntKind.wrap .u64 n) 6)) = ((k + 1 : Nat) : Int) := by
    rw [hk.1, w64_id (n := (k : Int)) (by omega) (by omega), w64_id (by omega) (by omega)]
    omega
  rw [hw]
  refine Ok.lt ?_
  have g1 := Gr.push H (.cells [.sl v] false)
  have hc : (H.push (.cells [.sl v] false)).ldSl H.n 0 = some v := by simp [Hp.ldSl, Hp.ld, AV.asSl]
  refine Ok.bind (r47_ok _ _) fun ⟨w, e⟩ H2 ⟨g2, h2⟩ => ?_
  dsimp only at h2 ⊢
  rw [if_pos (by omega)] at h2
  obtain ⟨rfl, ws, h2⟩ := h2
  rw [Int.toNat_natCast] at h2
  have hmem : k + 1 ∈ [1, 2, 3, 4, 5, 6] := by simp; omega
  have hf := (pinsAll_facts (k + 1) hmem).2
  have hl := h2.len
  refine Ok.neg (by decide) (Ok.ck (by omega) ?_)
  have hap : ∃ x : Int, apart false 1 [.int .i64 0, .int .i64 1, .int .i64 2, .int .i64 4, .int .i64 12, .int .i64 40, .int .i64 116] (((k + 1 : Nat) : Int).toNat * 1) = some (.int .i64 x) ∧ x = (([0, 1, 2, 4, 12, 40, 116] : List Nat).getD (k + 1) 0 : Nat) := by
    have hk2 := hk.2
    have : k = 0 ∨ k = 1 ∨ k = 2 ∨ k = 3 ∨ k = 4 ∨ k = 5 := by omega
    rcases this with rfl | rfl | rfl | rfl | rfl | rfl <;> exact ⟨_, rfl, rfl⟩
  obtain ⟨x, hx, hx2⟩ := hap
  refine Ok.ld hx (Ok.ld rfl ?_)
  rw [decide_eq_false (by rw [hl, hf, hx2]; simp)]
  exact costs_loop hmem (hv.gr g1) hc g2 h2
theorem lawCall15 (H : Hp) (xs : List AV) (_ : NoOwn H) (h : RdAs H [.int .i64, .sl (.int .i64), .int .i64, .int .i64] xs) : ∃ H1, CallSim Try.prog 15 xs H (.bool true) H1 := by
  obtain ⟨x, _, rfl, hx, y, _, rfl, hy, z, _, rfl, hz, u, _, rfl, hu, rfl⟩ := h
  obtain ⟨a0, e0, _⟩ : Rd H (.int .i64) [x] := hx
  obtain ⟨a2, e2, _⟩ : Rd H (.int .i64) [z] := hz
  obtain ⟨a3, e3, _⟩ : Rd H (.int .i64) [u] := hu
  injection e0 with e0
  injection e2 with e2
  injection e3 with e3
  subst e0; subst e2; subst e3
  obtain ⟨v, row, rfl, hv, hb, _⟩ := rd_ints hy
  obtain ⟨b, H1, h1, rfl⟩ := costsLaw (n := a0) (p := a2) (g := a3) hv.sl
  exact ⟨H1, sim15 (happ := appSim 10) h1⟩
end Go.Lt.P8
