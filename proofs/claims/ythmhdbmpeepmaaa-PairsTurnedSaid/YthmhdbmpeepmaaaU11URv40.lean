/- PLAIN LAWS OF WHAT IS COMPUTED, for the statement 'PairsTurned'. Nothing is asked of the input. -/
import Derived.Test.YthmhdbmpeepmaaaU11URows2
import Derived.Test.YthmhdbmpeepmaaaU11UList
set_option linter.unusedVariables false
set_option linter.unusedSimpArgs false
set_option linter.unusedSimpArgs false
namespace Go.Lt.P8
open Go Go.Lt Go.Proofs
theorem zeros1 (n : Nat) : zerosA [.int .i64 0] (n * 1) = (List.replicate n (0 : Int)).map (.int .i64) := by rw [Nat.mul_one, zerosA_ints]
theorem rev_step {l q : List Int} {i j : Nat} (hq : q.length = l.length) (hij : i + j + 1 = l.length) (hlt : i < j)
    (h : ∀ t (h1 : t < q.length) (h2 : t < l.length), q[t] = if t < i ∨ j < t then l[l.length - 1 - t] else l[t]) :
    ∀ t (h1 : t < ((q.set i (l[j]'(by omega))).set j (l[i]'(by omega))).length) (h2 : t < l.length), ((q.set i (l[j]'(by omega))).set j (l[i]'(by omega)))[t] = if t < i + 1 ∨ j - 1 < t then l[l.length - 1 - t] else l[t] := by
  intro t h1 h2
  rw [List.getElem_set, List.getElem_set]
  by_cases e1 : j = t
  · subst e1
    rw [if_pos rfl, if_pos (by omega)]
    congr 1; omega
  · rw [if_neg e1]
    by_cases e2 : i = t
    · subst e2
      rw [if_pos rfl, if_pos (by omega)]
      congr 1; omega
    · rw [if_neg e2, h t (by omega) h2]
      by_cases e3 : t < i ∨ j < t
      · rw [if_pos e3, if_pos (by omega)]
      · rw [if_neg e3, if_neg (by omega)]
theorem r40_loop {l : List Int} {Hb : Hp} {v : Sl} (hvl : v.len = l.length) (hvo : v.o = 0) (hb : l.length ≤ 4294967296) (hbn : Hb.n ≤ v.b) : ∀ (m i j K : Nat) (q : List Int) (H : Hp), j - i ≤ m → m < K → i + j + 1 = l.length → q.length = l.length → Gr Hb H → H.get v.b = some (.cells (q.map (.int .i64)) false) →
    (∀ t (h1 : t < q.length) (h2 : t < l.length), q[t] = if t < i ∨ j < t then l[l.length - 1 - t] else l[t]) →
    ∃ H', r40_l0 K v (i : Int) (j : Int) H = some ((), H') ∧ Gr Hb H' ∧ H'.get v.b = some (.cells (l.reverse.map (.int .i64)) false) := by
  intro m
  induction m with
  | zero =>
    intro i j K q H hm hK hij hq g hg h
    obtain ⟨K, rfl⟩ : ∃ j, K = j + 1 := ⟨K - 1, by omega⟩
    rw [r40_l0, if_neg (by omega)]
    refine ⟨H, rfl, g, ?_⟩
    have : q = l.reverse := by
      apply List.ext_getElem (by simp [hq])
      intro t h1 h2
      rw [h t h1 (by omega), List.getElem_reverse]
      split
      · rfl
      · congr 1; omega
    rw [hg, this]
  | succ m ih =>
    intro i j K q H hm hK hij hq g hg h
    obtain ⟨K, rfl⟩ : ∃ j, K = j + 1 := ⟨K - 1, by omega⟩
    by_cases hlt : i < j
    · rw [r40_l0, if_pos (by omega)]
      simp only [ck, Int.toNat_natCast, Nat.mul_one, hvo, Nat.zero_add]
      have e1 : H.ldI .i64 v.b j = some (l[j]'(by omega)) := by
        have := h j (by omega) (by omega)
        rw [if_neg (by omega)] at this
        simp [Hp.ldI, ld_of_get hg, AV.asI, List.getElem?_eq_getElem (show j < q.length by omega), this]
      have e2 : H.ldI .i64 v.b i = some (l[i]'(by omega)) := by
        have := h i (by omega) (by omega)
        rw [if_neg (by omega)] at this
        simp [Hp.ldI, ld_of_get hg, AV.asI, List.getElem?_eq_getElem (show i < q.length by omega), this]
      rw [if_pos (by omega), e1]
      simp only [Option.bind_some]
      rw [if_pos (by omega), e2]
      simp only [Option.bind_some]
      rw [if_pos (by omega), st_eq hg (by simp; omega)]
      simp only [Option.bind_some]
      have hg1 := Hp.get_set_same H (.cells ((q.map (AV.int .i64)).set i (.int .i64 (l[j]'(by omega)))) false) (Hp.get_lt hg)
      rw [if_pos (by omega), st_eq hg1 (by simp; omega)]
      simp only [Option.bind_some]
      rw [w64_id (n := (i : Int) + 1) (by omega) (by omega), w64_id (n := (j : Int) - 1) (by omega) (by omega), show (j : Int) - 1 = ((j - 1 : Nat) : Int) by omega, show (i : Int) + 1 = ((i + 1 : Nat) : Int) by omega]
      have e : ((q.map (AV.int .i64)).set i (.int .i64 (l[j]'(by omega)))).set j (.int .i64 (l[i]'(by omega))) = ((q.set i (l[j]'(by omega))).set j (l[i]'(by omega))).map (.int .i64) := by simp [List.map_set]
      rw [e]
      exact ih (i + 1) (j - 1) K _ _ (by omega) (by omega) (by omega) (by simp [hq])
        ⟨by have := g.1; simp; omega, fun c hc => by rw [Hp.get_set_other _ _ (by omega), Hp.get_set_other _ _ (by omega), g.2 c hc]⟩ (Hp.get_set_same _ _ (by simpa using Hp.get_lt hg)) (rev_step hq hij hlt h)
    · rw [r40_l0, if_neg (by omega)]
      refine ⟨H, rfl, g, ?_⟩
      have : q = l.reverse := by
        apply List.ext_getElem (by simp [hq])
        intro t h1 h2
        rw [h t h1 (by omega), List.getElem_reverse]
        split
        · rfl
        · congr 1; omega
      rw [hg, this]
/-- slices.Reverse, of a slice of one's own -/
theorem r40_spec {l : List Int} {Hb H : Hp} {v : Sl} (hvl : v.len = l.length) (hvo : v.o = 0) (hb : l.length ≤ 4294967296) (h0 : l ≠ []) (hbn : Hb.n ≤ v.b) (g : Gr Hb H) (hg : H.get v.b = some (.cells (l.map (.int .i64)) false)) :
    ∃ H', r40 v H = some ((), H') ∧ Gr Hb H' ∧ H'.get v.b = some (.cells (l.reverse.map (.int .i64)) false) := by
  unfold r40
  have := List.length_pos_iff.2 h0
  rw [w64_id (by omega) (by omega), show (v.len : Int) - 1 = ((l.length - 1 : Nat) : Int) by omega]
  exact r40_loop hvl hvo hb hbn l.length 0 (l.length - 1) FUEL l H (by omega) (by unfold FUEL; omega) (by omega) rfl g hg (fun t h1 h2 => by rw [if_neg (by omega)])
end Go.Lt.P8
