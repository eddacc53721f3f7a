/- PLAIN LAWS OF WHAT IS COMPUTED, for the statement 'PairsThrees'. Nothing is asked of the input. -/
import Derived.Test.YthmhdbmpeepmaaaU14UThH
import Derived.Test.YthmhdbmpeepmaaaLB
set_option linter.unusedVariables false
set_option linter.unusedSimpArgs false
namespace Go.Lt.P8
open Go Go.Lt Go.Proofs
def mrkA (M : List Pr) : List AV := (List.range 81).map fun t => AV.bool (decide ((((t / 9 : Nat) : Int), ((t % 9 : Nat) : Int)) ∈ M))
theorem mrkA_len (M : List Pr) : (mrkA M).length = 81 := by simp [mrkA]
theorem mrkA_get {M : List Pr} {a b : Nat} (ha : a < 9) (hb : b < 9) : (mrkA M)[a * 9 + b]? = some (.bool (decide (((a : Int), (b : Int)) ∈ M))) := by
  unfold mrkA
  rw [List.getElem?_map, List.getElem?_range (by omega)]
  simp only [Option.map_some]
  rw [show (a * 9 + b) / 9 = a by omega, show (a * 9 + b) % 9 = b by omega]
theorem mrkA_set {M : List Pr} {a b : Nat} (ha : a < 9) (hb : b < 9) : (mrkA M).set (a * 9 + b) (.bool true) = mrkA (M ++ [((a : Int), (b : Int))]) := by
  apply List.ext_getElem
  · simp [mrkA]
  · intro t h1 h2
    have ht : t < 81 := by rw [mrkA_len] at h2; exact h2
    rw [List.getElem_set]
    unfold mrkA
    simp only [List.getElem_map, List.getElem_range, List.mem_append, List.mem_singleton]
    by_cases e : a * 9 + b = t
    · subst e
      rw [if_pos rfl, show (a * 9 + b) / 9 = a by omega, show (a * 9 + b) % 9 = b by omega]
      simp
    · rw [if_neg e]
      have : ¬ (((t / 9 : Nat) : Int), ((t % 9 : Nat) : Int)) = ((a : Int), (b : Int)) := fun c => by
        obtain ⟨c1, c2⟩ := Prod.mk.inj c
        omega
      congr 1
      exact decide_eq_decide.2 ⟨.inl, fun c => c.resolve_right this⟩
/-- a mark more -/
theorem Ok.mark {α : Type} {Q : α → Hp → Prop} {H : Hp} {cb : Nat} {M : List Pr} (hm : H.get cb = some (.cells (mrkA M) false)) {x y : Int} (hp : 0 ≤ x ∧ x < 9 ∧ 0 ≤ y ∧ y < 9) {f : Hp → Option (α × Hp)}
    (k : ∀ H', H'.get cb = some (.cells (mrkA (M ++ [(x, y)])) false) → H'.n = H.n → (∀ c, c ≠ cb → H'.get c = H.get c) → Ok (f H') Q) :
    Ok (ck ((0 : Int) ≤ x ∧ x < ((9 : Nat) : Int)) (ck ((0 : Int) ≤ y ∧ y < ((9 : Nat) : Int)) ((H.st cb ((0 + (x : Int).toNat * 9) + (y : Int).toNat * 1) (.bool true)).bind fun H' => f H'))) Q := by
  obtain ⟨a, rfl⟩ : ∃ z : Nat, x = z := ⟨x.toNat, by omega⟩
  obtain ⟨b, rfl⟩ : ∃ z : Nat, y = z := ⟨y.toNat, by omega⟩
  rw [Int.toNat_natCast, Int.toNat_natCast, Nat.zero_add, Nat.mul_one]
  refine Ok.ck (by omega) (Ok.ck (by omega) ?_)
  refine Ok.st hm (by rw [mrkA_len]; omega) fun H' e h => ?_
  rw [mrkA_set (by omega) (by omega)] at h
  exact k H' h (by rw [e]; simp) fun c hc => by rw [e, Hp.get_set_other _ _ hc]
theorem mark_ld {H : Hp} {cb : Nat} {M : List Pr} (hm : H.get cb = some (.cells (mrkA M) false)) {a b : Nat} (ha : a < 9) (hb : b < 9) : H.ldB cb ((0 + (a : Int).toNat * 9) + (b : Int).toNat * 1) = some (decide (((a : Int), (b : Int)) ∈ M)) := by
  rw [Int.toNat_natCast, Int.toNat_natCast, Nat.zero_add, Nat.mul_one]
  exact ldB_get hm (mrkA_get ha hb)
theorem growF_at {v f a t : Nat} {l : List Tr} (h : a + 1 + t < v) (hp : ∀ p ∈ rowB tt2 v a ++ selB tt2 a t, p ∈ pairs3 l) (hn : ((a : Int), ((a + 1 + t : Nat) : Int)) ∉ pairs3 l) :
    growF v (f + 1) l = (List.range' (a + 1 + t + 1) (v - (a + 1 + t + 1))).findSome? fun (z : Nat) => if decide (((a : Int), (z : Int)) ∈ pairs3 l) = true ∨ decide ((((a + 1 + t : Nat) : Int), (z : Int)) ∈ pairs3 l) = true then none else growF v f (l ++ [((a : Int), ((a + 1 + t : Nat) : Int), (z : Int))]) := by
  rw [growF, firstP_at h hp hn]
  simp only [Int.toNat_natCast]
  congr 1
  funext z
  have : ((prs3 ((a : Int), ((a + 1 + t : Nat) : Int), (z : Int))).any fun q => decide (q ∈ pairs3 l)) = (decide (((a : Int), (z : Int)) ∈ pairs3 l) || decide ((((a + 1 + t : Nat) : Int), (z : Int)) ∈ pairs3 l)) := by
    simp only [prs3, List.any_cons, List.any_nil, Bool.or_false]
    rw [decide_eq_false hn, Bool.false_or]
  rw [this]
  simp only [Bool.or_eq_true]
/-- threes of the reference -/
theorem r98_ok {v : Nat} (hv : 3 ≤ v ∧ v ≤ 9) : ∀ (f k : Nat) (l : List Tr) (H : Hp) (w : Sl), f ≤ k → 13 ≤ l.length + f → Fine v l → SL H w l →
    Ok (r98 (app k) v w H) fun r H' => Gr H H' ∧ (r.2 = (growF v f l).isSome) ∧ (r.2 = false → r.1 = ⟨true, 0, 0, 0, 0, 0⟩) ∧ ∀ x, growF v f l = some x → SL H' r.1 x := by
  intro f
  induction f with
  | zero => intro k l H w _ h1 h2; have := h2.len hv; omega
  | succ f ihf =>
    intro k l H w hk hl hfn hw
    obtain ⟨k, rfl⟩ : ∃ j, k = j + 1 := ⟨k - 1, by omega⟩
    have hlen := hfn.len hv
    have hwl := hw.len
    unfold r98
    refine Ok.lt ?_
    have gp := Gr.push H (.cells (mrkA []) false)
    show Ok (r98_l0 (app (k + 1)) FUEL v w H.n w w.len 0 (H.push (.cells (mrkA []) false))) _
    rw [hwl]
    refine Ok.loop (L := fun K (s : Int) H' => r98_l0 (app (k + 1)) K v w H.n w l.length s H') (fun m s H' => ∃ i : Nat, s = i ∧ i + m = l.length ∧ Gr H H' ∧ H'.get H.n = some (.cells (mrkA (pairs3 (l.take i))) false)) ?_ FUEL l.length 0 _ (by unfold FUEL; omega) ⟨0, rfl, by omega, gp, by simp [pairs3]⟩
    rintro K m s H1 ⟨i, rfl, hmi, g1, hM⟩ ih
    try dsimp only at *
    rw [r98_l0]
    by_cases h : i < l.length
    · have hg := hw.gr g1
      obtain ⟨D, hD, hD', gD, nD⟩ := sts3 H1 (.int .i64 l[i].1) (.int .i64 l[i].2.1) (.int .i64 l[i].2.2) (.int .i64 0) (.int .i64 0) (.int .i64 0)
      have hin := hfn.rng _ (List.getElem_mem h)
      unfold inT at hin
      have hne : H1.n ≠ H.n := by have := Hp.get_lt hM; omega
      have hMD : D.get H.n = some (.cells (mrkA (pairs3 (l.take i))) false) := by rw [gD.2 _ (Hp.get_lt hM)]; exact hM
      refine Ok.pos (by omega) (Ok.ck (by omega) (Ok.ld (hg.ldI (i := i) (j := 0) h rfl) (Ok.ld (hg.ldI (i := i) (j := 1) h rfl) (Ok.ld (hg.ldI (i := i) (j := 2) h rfl) (Ok.ld hD (Ok.ld (ldI_get hD' rfl) (Ok.ld (ldI_get hD' rfl) (Ok.ld (ldI_get hD' rfl) (Ok.ld (ldI_get hD' rfl) (Ok.ld (ldI_get hD' rfl) (Ok.ld (ldI_get hD' rfl) ?_)))))))))))
      refine Ok.mark (x := l[i].1) (y := l[i].2.1) hMD (by omega) fun E hE nE oE => ?_
      have hE' := (oE _ hne).trans hD'
      refine Ok.mark (x := l[i].1) (y := l[i].2.2) hE (by omega) fun F hF nF oF => ?_
      have hF' := (oF _ hne).trans hE'
      refine Ok.mark (x := l[i].2.1) (y := l[i].2.2) hF (by omega) fun G hG nG oG => ?_
      have hG' := (oG _ hne).trans hF'
      refine Ok.ck (ldI_get hE' rfl) (Ok.ck (ldI_get hE' rfl) (Ok.ck (ldI_get hE' rfl) (Ok.ck (ldI_get hE' rfl) (Ok.ck (ldI_get hF' rfl) (Ok.ck (ldI_get hF' rfl) (Ok.ck (ldI_get hF' rfl) (Ok.ck (ldI_get hF' rfl) (Ok.ck (ldI_get hG' rfl) (Ok.ck (ldI_get hG' rfl) (Ok.ck (ldI_get hG' rfl) (Ok.ck (ldI_get hG' rfl) ?_)))))))))))
      rw [w64_succ (by omega)]
      have gB := g1.trans gD
      refine ih (m - 1) _ G (by omega) ⟨i + 1, rfl, by omega, ⟨by have := gB.1; omega, fun c hc => by rw [oG _ (by omega), oF _ (by omega), oE _ (by omega), gB.2 _ hc]⟩, ?_⟩
      rw [hG, List.take_succ_eq_append_getElem h, pairs3_append, pairs3_one]
      simp [prs3]
    · rw [List.take_of_length_le (by omega)] at hM
      refine Ok.neg (by omega) ?_
      clear ih
      refine Ok.loop (L := fun K (s : Int) H' => r98_l1 (app (k + 1)) K v w H.n v s H') (fun m s H' => H' = H1 ∧ ∃ a : Nat, s = a ∧ a + m = v ∧ ∀ p ∈ rowB tt2 v a, p ∈ pairs3 l) ?_ FUEL v 0 H1 (by unfold FUEL; omega) ⟨rfl, 0, rfl, by omega, by simp [rowB]⟩
      rintro K m s H2 ⟨rfl, a, rfl, hma, hS⟩ ih
      try dsimp only at *
      rw [r98_l1]
      by_cases ha : a < v
      · refine Ok.pos (by omega) ?_
        rw [w64_succ (by omega)]
        refine Ok.loop (L := fun K2 (s : Int) H' => r98_l2 (app (k + 1)) (fun v1_ v2_ v3_ v4_ v5_ H_ => r98_l1 (app (k + 1)) K v1_ v2_ v3_ v4_ v5_ H_) K2 v w H.n a s v a H') (fun m s H' => H' = H2 ∧ ∃ t : Nat, s = ((a + 1 + t : Nat) : Int) ∧ t + m = v - (a + 1) ∧ ∀ p ∈ selB tt2 a t, p ∈ pairs3 l) ?_ FUEL (v - (a + 1)) _ H2 (by unfold FUEL; omega) ⟨rfl, 0, rfl, by omega, by simp [selB]⟩
        rintro K2 m2 s H3 ⟨rfl, t, rfl, hmt, hS2⟩ ih2
        try dsimp only at *
        rw [r98_l2]
        by_cases ht : a + 1 + t < v
        · refine Ok.pos (by omega) (Ok.ck (by omega) (Ok.ck (by omega) (Ok.ld (mark_ld hM (by omega) (by omega)) ?_)))
          by_cases hp : ((a : Int), ((a + 1 + t : Nat) : Int)) ∈ pairs3 l
          · refine Ok.pos (decide_eq_true hp) ?_
            rw [w64_succ (by omega)]
            refine ih2 (m2 - 1) _ _ (by omega) ⟨rfl, t + 1, rfl, by omega, fun p hpm => ?_⟩
            rw [selB_succ, if_pos rfl] at hpm
            rcases List.mem_append.1 hpm with hpm | hpm
            · exact hS2 p hpm
            · rw [List.mem_singleton] at hpm; rw [hpm]; exact hp
          · refine Ok.neg (by simpa using hp) ?_
            have hgr := growF_at (f := f) ht (fun p hpm => by
              rcases List.mem_append.1 hpm with hpm | hpm
              · exact hS p hpm
              · exact hS2 p hpm) hp
            generalize growF v (f + 1) l = G at *
            rw [w64_succ (by omega)]
            generalize hb : a + 1 + t = b at *
            clear ih ih2
            refine Ok.loop (L := fun K3 (s : Int) H' => r98_l3 (app (k + 1)) K3 v w H.n a b s H') (fun m s H' => ∃ z : Nat, s = z ∧ b < z ∧ z + m = v ∧ Gr H3 H' ∧ G = (List.range' z (v - z)).findSome? fun (z : Nat) => if decide (((a : Int), (z : Int)) ∈ pairs3 l) = true ∨ decide (((b : Int), (z : Int)) ∈ pairs3 l) = true then none else growF v f (l ++ [((a : Int), (b : Int), (z : Int))])) ?_ FUEL (v - (b + 1)) _ H3 (by unfold FUEL; omega) ⟨b + 1, rfl, by omega, by omega, .refl _, hgr⟩
            rintro K3 m3 s H4 ⟨z, rfl, hz, hmz, g4, hG⟩ ih3
            try dsimp only at *
            rw [r98_l3]
            by_cases hzv : z < v
            · rw [show v - z = (v - (z + 1)) + 1 by omega, List.range'_succ, List.findSome?_cons] at hG
              have hM4 : H4.get H.n = some (.cells (mrkA (pairs3 l)) false) := by rw [g4.2 _ (Hp.get_lt hM)]; exact hM
              refine Ok.pos (by omega) (Ok.ck (by omega) (Ok.ck (by omega) (Ok.ld (mark_ld hM4 (by omega) (by omega)) ?_)))
              have skip : (decide (((a : Int), (z : Int)) ∈ pairs3 l) = true ∨ decide (((b : Int), (z : Int)) ∈ pairs3 l) = true) → Ok (r98_j4 (app (k + 1)) (fun v1_ v2_ v3_ v4_ v5_ v6_ H_ => r98_l3 (app (k + 1)) K3 v1_ v2_ v3_ v4_ v5_ v6_ H_) v w H.n a b z false H4) fun r H' => Gr H H' ∧ (r.2 = G.isSome) ∧ (r.2 = false → r.1 = ⟨true, 0, 0, 0, 0, 0⟩) ∧ ∀ x, G = some x → SL H' r.1 x := by
                intro hc
                rw [if_pos hc] at hG
                unfold r98_j4
                refine Ok.neg (by simp) ?_
                rw [w64_succ (by omega)]
                exact ih3 (m3 - 1) _ H4 (by omega) ⟨z + 1, rfl, by omega, by omega, g4, hG⟩
              refine Ok.ite (fun hc => skip (.inl hc)) fun hc => Ok.ck (by omega) (Ok.ck (by omega) (Ok.ld (mark_ld hM4 (by omega) (by omega)) ?_))
              by_cases hc2 : ((b : Int), (z : Int)) ∈ pairs3 l
              · rw [decide_eq_true hc2]
                exact skip (.inr (decide_eq_true hc2))
              · rw [decide_eq_false hc2]
                have hnn : ¬ (decide (((a : Int), (z : Int)) ∈ pairs3 l) = true ∨ decide (((b : Int), (z : Int)) ∈ pairs3 l) = true) := by
                  rintro (c | c)
                  · exact hc c
                  · exact hc2 (of_decide_eq_true c)
                rw [if_neg hnn] at hG
                have hin : inT v ((a : Int), (b : Int), (z : Int)) := ⟨by dsimp only; omega, by dsimp only; omega, by dsimp only; omega, by dsimp only; omega⟩
                have hfn2 := hfn.more hin (by
                  rw [List.any_eq_false]
                  intro q hq
                  simp only [prs3, List.mem_cons, List.not_mem_nil, or_false] at hq
                  rcases hq with rfl | rfl | rfl
                  · simpa using hp
                  · simpa using hc
                  · simpa using hc2)
                have g14 := g1.trans g4
                have hw4 := hw.gr g14
                have hcap := hw4.cap
                show Ok (r98_j4 _ _ v w H.n a b z true H4) _
                unfold r98_j4
                refine Ok.pos rfl (Ok.ck ⟨by omega, by omega, by omega, by omega⟩ ?_)
                rw [Int.toNat_natCast]
                refine Ok.bind (grow_sl hw4 ((a : Int), (b : Int), (z : Int)) rfl rfl (by omega)) fun w5 H5 ⟨g5, hw5, _⟩ => ?_
                refine Ok.bind (P := fun r H' => ∃ x ok, r = .tup [.sl x, .bool ok] ∧ Gr H5 H' ∧ (ok = (growF v f (l ++ [((a : Int), (b : Int), (z : Int))])).isSome) ∧ (ok = false → x = ⟨true, 0, 0, 0, 0, 0⟩) ∧ ∀ y, growF v f (l ++ [((a : Int), (b : Int), (z : Int))]) = some y → SL H' x y) ?_ ?_
                · show Ok ((r98 (app k) v w5 H5).map fun p => (AV.tup [.sl p.1.1, .bool p.1.2], p.2)) _
                  obtain ⟨⟨x, ok⟩, H', e, h1, h2, h3, h4⟩ := ihf k (l ++ [((a : Int), (b : Int), (z : Int))]) H5 w5 (by omega) (by simp; omega) hfn2 hw5
                  rw [e]
                  exact Ok.ret ⟨x, ok, rfl, h1, h2, h3, h4⟩
                · rintro r H6 ⟨x, ok, rfl, g6, hok, hx, hsl⟩
                  have g36 := g4.trans (g5.trans g6)
                  refine Ok.ld rfl (Ok.ck rfl (Ok.ld rfl (Ok.ld rfl (Ok.ld rfl (Ok.ld rfl ?_)))))
                  cases hgr2 : growF v f (l ++ [((a : Int), (b : Int), (z : Int))]) with
                  | some y =>
                    rw [hgr2] at hok hG
                    subst hok
                    refine Ok.pos rfl (Ok.ret ⟨g1.trans g36, by rw [hG]; rfl, fun e => (by cases e), fun y' hy => ?_⟩)
                    rw [hG] at hy
                    injection hy with hy
                    subst hy
                    exact hsl _ hgr2
                  | none =>
                    rw [hgr2] at hok hG
                    subst hok
                    refine Ok.neg (by simp) ?_
                    rw [w64_succ (by omega)]
                    exact ih3 (m3 - 1) _ H6 (by omega) ⟨z + 1, rfl, by omega, by omega, g36, hG⟩
            · refine Ok.neg (by omega) (Ok.ret ⟨g1.trans g4, ?_, fun _ => rfl, fun x hx => ?_⟩)
              · rw [hG, show v - z = 0 by omega]; rfl
              · rw [hG, show v - z = 0 by omega] at hx; cases hx
        · refine Ok.neg (by omega) ?_
          rw [w64_succ (by omega)]
          refine ih (m - 1) _ _ (by omega) ⟨rfl, a + 1, rfl, by omega, fun p hpm => ?_⟩
          have : t = v - (a + 1) := by omega
          subst this
          rw [rowB_succ] at hpm
          rcases List.mem_append.1 hpm with hpm | hpm
          · exact hS p hpm
          · exact hS2 p hpm
      · have : a = v := by omega
        subst this
        have hnone : firstP a (pairs3 l) = none := by
          unfold firstP
          rw [List.find?_eq_none]
          intro p hp
          simpa using hS p hp
        refine Ok.neg (by omega) (Ok.ret ⟨g1, by rw [growF, hnone]; rfl, fun e => (by cases e), fun x hx => ?_⟩)
        rw [growF, hnone] at hx
        injection hx with hx
        subst hx
        exact hw.gr g1
/-- Threes of the reference -/
theorem r57_ok {k v : Nat} (hk : 13 ≤ k) (hv : 3 ≤ v ∧ v ≤ 9) {H : Hp} : Ok (r57 (app k) v H) fun r H' => Gr H H' ∧ (match growF v 13 [] with
    | some l => SL H' r.1 l ∧ r.2 = 0
    | none => r = (⟨true, 0, 0, 0, 0, 0⟩, 4)) := by
  unfold r57
  refine Ok.bind (r98_ok hv 13 k [] H _ hk (by simp) ⟨by simp, by simp [pairs3]⟩ SL.nilS) fun r H1 ⟨g, h1, h2, h3⟩ => ?_
  obtain ⟨x, ok⟩ := r
  dsimp only at h1 h2 h3
  cases hg : growF v 13 [] with
  | some l =>
    rw [hg] at h1
    subst h1
    exact Ok.pos rfl (Ok.ret ⟨g, h3 l hg, rfl⟩)
  | none =>
    rw [hg] at h1
    subst h1
    exact Ok.neg (by simp) (Ok.ret ⟨g, rfl⟩)
end Go.Lt.P8
