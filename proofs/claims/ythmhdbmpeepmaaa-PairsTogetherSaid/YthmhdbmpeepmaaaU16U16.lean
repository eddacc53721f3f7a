/- PLAIN LAWS OF WHAT IS COMPUTED, for the statement 'PairsTogether'. Nothing is asked of the input. -/
import Derived.Test.YthmhdbmpeepmaaaU16UTg1
import Derived.Test.YthmhdbmpeepmaaaU16UThH
import Derived.Test.YthmhdbmpeepmaaaU16UFirst
import Derived.Test.YthmhdbmpeepmaaaU16UUp
set_option linter.unusedVariables false
set_option linter.unusedSimpArgs false
namespace Go.Lt.P8
open Go Go.Lt Go.Proofs
theorem awake20b (H : Hp) : ∃ H', r23 (app 20) H = some (true, H') := awake_spec H (f := 19) (by omega) (by decide +kernel)
/-- the players of a triple counted -/
theorem r16_l3_ok {v : Nat} {a1 : Int} {w v5 : Sl} {cb : Nat} {n : Int} {i : Nat} {S : List Int} {t : Tr} (hv : v ≤ 9) (hS : S.length ≤ 1000) (hr : ∀ x ∈ list3 t, 0 ≤ x ∧ x < (v : Int)) {Q : Bool → Hp → Prop} {kt : Int → Int → Sl → Sl → Sl → Int → Int → Hp → Option (Bool × Hp)} {H : Hp}
    (hc : H.get cb = some (.cells (cntB v S) false))
    (k : ∀ H', H'.get cb = some (.cells (cntB v (S ++ list3 t)) false) → H'.n = H.n → (∀ c, c ≠ cb → H'.get c = H.get c) → Ok (kt v a1 w ⟨false, cb, 0, v, v, 0⟩ v5 n (w64 ((i : Int) + 1)) H') Q) :
    Ok (r16_l3 (app 20) kt FUEL v a1 w ⟨false, cb, 0, v, v, 0⟩ v5 n i t.1 t.2.1 t.2.2 0 H) Q := by
  refine Ok.loop (L := fun K (s : Int) H' => r16_l3 (app 20) kt K v a1 w ⟨false, cb, 0, v, v, 0⟩ v5 n i t.1 t.2.1 t.2.2 s H') (fun m s H' => ∃ j : Nat, s = j ∧ j + m = 3 ∧ H'.get cb = some (.cells (cntB v (S ++ (list3 t).take j)) false) ∧ H'.n = H.n ∧ (∀ c, c ≠ cb → H'.get c = H.get c)) ?_ FUEL 3 0 H (by unfold FUEL; omega) ⟨0, rfl, by omega, by simpa using hc, rfl, fun _ _ => rfl⟩
  rintro K m s H1 ⟨j, rfl, hm, hc1, hn1, ho1⟩ ih
  try dsimp only at *
  rw [r16_l3]
  have hl3 : (list3 t).length = 3 := rfl
  by_cases h : j < 3
  · have hx := hr _ (List.getElem_mem (show j < (list3 t).length by omega))
    have hap : apart false 1 [.int .i64 t.1, .int .i64 t.2.1, .int .i64 t.2.2] ((j : Int).toNat * 1) = some (.int .i64 (list3 t)[j]) := by
      rw [Int.toNat_natCast, Nat.mul_one]
      have : j = 0 ∨ j = 1 ∨ j = 2 := by omega
      rcases this with rfl | rfl | rfl <;> rfl
    refine Ok.pos (by omega) (Ok.ck (by omega) (Ok.ld hap ?_))
    have htk : (list3 t).take (j + 1) = (list3 t).take j ++ [(list3 t)[j]] := List.take_succ_eq_append_getElem (by omega)
    generalize hxx : (list3 t)[j] = x at *
    obtain ⟨y, rfl⟩ : ∃ y : Nat, x = y := ⟨x.toNat, by omega⟩
    refine Ok.ld rfl (Ok.neg (by omega) ?_)
    rw [decide_eq_false (by omega)]
    unfold r16_j5
    refine Ok.neg (by simp) (Ok.ck (by dsimp only; omega) ?_)
    have hy : y < v := by omega
    refine Ok.ld (ldI_get hc1 (by simpa using cntB_get hy)) (Ok.ck (by dsimp only; omega) ?_)
    have hcl : (S ++ (list3 t).take j).count (y : Int) ≤ 1003 := by
      refine Nat.le_trans List.count_le_length ?_
      rw [List.length_append, List.length_take]; omega
    refine Ok.st hc1 (by rw [cntB_len]; simp; exact hy) fun H2 e2 h2 => ?_
    rw [w64_id (by omega) (by omega)] at h2
    rw [w64_succ (by omega)]
    refine ih (m - 1) _ H2 (by omega) ⟨j + 1, rfl, by omega, ?_, by rw [e2]; simpa using hn1, fun c hcne => by rw [e2, Hp.get_set_other _ _ hcne]; exact ho1 c hcne⟩
    rw [h2]
    have : (0 + (y : Int).toNat * 1) = y := by simp
    simp only [this]
    rw [cntB_set hy, htk, List.append_assoc]
  · refine Ok.neg (by omega) ?_
    have : j = 3 := by omega
    subst this
    rw [List.take_of_length_le (by omega)] at hc1
    exact k H1 hc1 hn1 ho1
theorem togetherLaw (a0 a1 : Int) (H : Hp) : Ok (r16 (app 20) a0 a1 H) fun b _ => b = true := by
  unfold r16
  obtain ⟨u, hu, hu7⟩ := u64_mod a0 (m := 7) (by omega)
  have e : w64 (3 + (w64 (Int.tmod (IntKind.wrap .u64 a0) 7))) = ((3 + u : Nat) : Int) := by
    rw [show (7 : Int) = ((7 : Nat) : Int) from rfl, hu, w64_id (n := (u : Int)) (by omega) (by omega), w64_id (by omega) (by omega)]
    omega
  rw [e]
  have hv : 3 ≤ 3 + u ∧ 3 + u ≤ 9 := by omega
  generalize 3 + u = v at *
  clear e hu hu7
  refine Ok.bind (r56_ok (by omega)) fun r1 H1 ⟨g1, h1⟩ => ?_
  rw [if_pos (by omega), Int.toNat_natCast] at h1
  obtain ⟨w, e1⟩ := r1
  dsimp only at h1
  rcases grow_cases hv with ⟨hg, h3, h7, h9⟩ | ⟨h379, l, hg, G⟩
  · rw [hg] at h1
    injection h1 with hx he
    subst hx he
    refine Ok.pos (by omega) (Ok.pos (by omega) ?_)
    rw [decide_eq_true (by omega)]
    unfold r16_j1
    obtain ⟨H', ha⟩ := awake20b H1
    exact Ok.pos rfl (Ok.pos rfl (Ok.pos rfl (Ok.ld ha (Ok.ret rfl))))
  · rw [hg] at h1
    dsimp only at h1
    obtain ⟨hw, rfl⟩ := h1
    have hlen := hw.len
    have hl12 : l.length ≤ 12 := by
      rw [G.len]
      rcases h379 with rfl | rfl | rfl <;> decide
    have hl1 : 1 ≤ l.length := by
      rw [G.len]
      rcases h379 with rfl | rfl | rfl <;> decide
    have hnil : w.nil = false := hw.nonnil (by intro c; rw [c] at hl1; simp at hl1)
    have htake : l.take 16 = l := List.take_of_length_le (by omega)
    suffices hs : Ok (r16_j1 (app 20) v a1 w 0 false H1) fun b _ => b = true by
      refine Ok.ite (fun h3 => Ok.ite (fun h7 => ?_) fun _ => hs) fun _ => hs
      rw [decide_eq_false (by omega)]
      exact hs
    unfold r16_j1
    refine Ok.neg (by simp) (Ok.bind (r52_own hw hnil (by omega)) fun w2 H2 ⟨g2, hw2, _⟩ => Ok.bind (r53_ok (k := 19) hw2.sl (by simp; omega)) fun r3 H3 ⟨g3, h3⟩ => ?_)
    rw [if_pos (by omega), Int.toNat_natCast, G.ok] at h3
    subst h3
    refine Ok.neg (by simp) (Ok.neg (by simp) (Ok.pos rfl ?_))
    have hdiv : w64 (Int.tdiv (w64 ((v : Int) * (w64 ((v : Int) - 1)))) 6) = (w.len : Int) := by
      rw [hlen, G.len]
      rcases h379 with rfl | rfl | rfl <;> decide +kernel
    rw [hdiv, decide_eq_false (by simp)]
    unfold r16_j0
    refine Ok.neg (by simp) (Ok.ck (by omega) (Ok.lt ?_))
    rw [Int.toNat_natCast, Nat.mul_one, cntB_nil]
    have g13 := g2.trans g3
    generalize hA : H3.push (.cells (cntB v []) false) = A
    have gA : Gr H3 A := by rw [← hA]; exact .push _ _
    have cA : A.get H3.n = some (.cells (cntB v []) false) := by rw [← hA]; simp
    have nA : A.n = H3.n + 1 := by rw [← hA]; simp
    clear hA
    have hwA := hw.gr (g13.trans gA)
    have hwcb : w.b ≠ H3.n := by
      have h0 := (hw.gr g13).blk (by intro c; rw [c] at hl1; simp at hl1)
      omega
    generalize H3.n = cb at *
    rw [hlen]
    refine Ok.loop (L := fun K (s : Int) H' => r16_l2 (app 20) K v a1 w ⟨false, cb, 0, v, v, 0⟩ w l.length s H') (fun m s H' => ∃ i : Nat, s = i ∧ i + m = l.length ∧ H'.get cb = some (.cells (cntB v (flat3 (l.take i))) false) ∧ SL H' w l ∧ cb < H'.n) ?_ FUEL l.length 0 A (by unfold FUEL; omega) ⟨0, rfl, by omega, by simpa [flat3] using cA, hwA, by omega⟩
    rintro K m s H4 ⟨i, rfl, hm, hc4, hw4, hcb4⟩ ih
    try dsimp only at *
    rw [r16_l2]
    by_cases h : i < l.length
    · obtain ⟨D, hD, hD', gD, nD⟩ := sts3 H4 (.int .i64 l[i].1) (.int .i64 l[i].2.1) (.int .i64 l[i].2.2) (.int .i64 0) (.int .i64 0) (.int .i64 0)
      refine Ok.pos (by omega) (Ok.ck (by omega) (Ok.ld (hw4.ldI (i := i) (j := 0) h rfl) (Ok.ld (hw4.ldI (i := i) (j := 1) h rfl) (Ok.ld (hw4.ldI (i := i) (j := 2) h rfl) (Ok.ld hD (Ok.ld (ldI_get hD' rfl) (Ok.ld (ldI_get hD' rfl) (Ok.ld (ldI_get hD' rfl) ?_))))))))
      have hcD : D.get cb = some (.cells (cntB v (flat3 (l.take i))) false) := by rw [gD.2 _ hcb4]; exact hc4
      refine r16_l3_ok (by omega) (by rw [flat3_len, List.length_take]; omega) (fun x hx => G.rng x (List.mem_flatMap.2 ⟨_, List.getElem_mem h, hx⟩)) hcD fun H5 h5 n5 o5 => ?_
      rw [w64_succ (by omega)]
      refine ih (m - 1) _ H5 (by omega) ⟨i + 1, rfl, by omega, ?_, ?_, by rw [n5]; have := gD.1; omega⟩
      · rw [h5, List.take_succ_eq_append_getElem h, flat3_append]
        simp [flat3]
      · exact (hw4.gr gD).same fun _ => o5 _ hwcb
    · rw [List.take_of_length_le (by omega)] at hc4
      refine Ok.neg (by omega) ?_
      clear ih
      refine Ok.loop (L := fun K (s : Int) H' => r16_l4 (app 20) K v a1 w ⟨false, cb, 0, v, v, 0⟩ v s H') (fun m s H' => H' = H4 ∧ ∃ i : Nat, s = i ∧ i + m = v) ?_ FUEL v 0 H4 (by unfold FUEL; omega) ⟨rfl, 0, rfl, by omega⟩
      rintro K m s H5 ⟨rfl, x, rfl, hm⟩ ih
      try dsimp only at *
      rw [r16_l4]
      by_cases hx : x < v
      · have hcnt := G.cnt x hx
        refine Ok.pos (by omega) (Ok.ck (by dsimp only; omega) (Ok.ld (ldI_get hc4 (by simpa using cntB_get hx)) ?_))
        refine Ok.neg ?_ ?_
        · rw [w64_id (by omega) (by omega), w64_id (by omega) (by omega)]
          omega
        · rw [w64_succ (by omega)]
          exact ih (m - 1) _ _ (by omega) ⟨rfl, x + 1, rfl, by omega⟩
      · have hul : IntKind.wrap .u64 (w.len : Int) = (l.length : Int) := by
          rw [hlen]
          simp only [IntKind.wrap, IntKind.signed, IntKind.bits]
          simp
          omega
        obtain ⟨d, hd, hdl⟩ := u64_mod a1 (m := l.length) (by omega)
        refine Ok.neg (by omega) ?_
        rw [hul, hd, w64_id (by omega) (by omega), w64_succ (by omega)]
        refine Ok.ck (by omega) (Ok.bind (r52_own hw4 hnil (by omega)) fun w6 H6 ⟨g6, hw6, _⟩ => ?_)
        rw [htake] at hw6
        refine Ok.bind (P := fun w H' => SL H' w (l.eraseIdx d)) ?_ fun w7 H7 hw7 => ?_
        · show Ok (delR 3 [.int .i64 0, .int .i64 0, .int .i64 0] w6 _ _ H6) _
          exact (del_ok hw6 hdl (by omega) rfl _ rfl rfl).mono fun _ _ h => h.1
        · refine Ok.bind (r53_ok (k := 19) hw7 (by rw [List.length_eraseIdx]; split <;> omega)) fun r8 H8 ⟨g8, h8⟩ => ?_
          rw [if_pos (by omega), Int.toNat_natCast, G.less d hdl] at h8
          subst h8
          obtain ⟨H', ha⟩ := awake20b H8
          exact Ok.neg (by simp) (Ok.pos rfl (Ok.ld ha (Ok.ret rfl)))
theorem lawCall16 (H : Hp) (xs : List AV) (_ : NoOwn H) (h : RdAs H [.int .i64, .int .i64] xs) : ∃ H1, CallSim Try.prog 16 xs H (.bool true) H1 := by
  obtain ⟨x, _, rfl, hx, y, _, rfl, hy, rfl⟩ := h
  obtain ⟨a0, e0, _⟩ : Rd H (.int .i64) [x] := hx
  obtain ⟨a1, e1, _⟩ : Rd H (.int .i64) [y] := hy
  injection e0 with e0
  injection e1 with e1
  subst e0; subst e1
  obtain ⟨b, H1, h1, rfl⟩ := togetherLaw a0 a1 H
  exact ⟨H1, sim16 (happ := appSim 20) h1⟩
end Go.Lt.P8
