/- PLAIN LAWS OF WHAT IS COMPUTED, for the statement 'PairsCosts'. Nothing is asked of the input. -/
import Derived.Test.YthmhdbmpeepmaaaU15UList
import Derived.Test.YthmhdbmpeepmaaaLMp
import Derived.Test.YthmhdbmpeepmaaaU15UPinD
set_option linter.unusedVariables false
set_option linter.unusedSimpArgs false
set_option linter.unusedSimpArgs false
namespace Go.Lt.P8
open Go Go.Lt Go.Proofs
theorem pins_inner {l : List Int} {Hb : Hp} {v w v3 : Sl} {i : Nat} (hw : Ints Hb w (l.take i)) {mb : Nat} (hmb : Hb.n ≤ mb) {x : Int} (hi : i ≤ 1000) (hx0 : 0 ≤ x) (hx1 : x ≤ 1000) (hl : ∀ j (h : j < (l.take i).length), 0 ≤ (l.take i)[j] ∧ (l.take i)[j] ≤ 1000)
    {kt : Sl → Nat → Sl → Int → Int → Hp → Option (Bool × Hp)} {len : Int} {hli : (l.take i).length = i} :
    ∀ (m j K : Nat) (S : List (Int × Int)) (H : Hp), j + m = i → m < K → Gr Hb H → MapP H mb S → ∃ H', Gr Hb H' ∧ match pinI x i ((l.take i).drop j) j S with
      | none => r82_l2 kt K v mb (i : Int) x v3 len (i : Int) w (w.len : Int) (j : Int) H = some (false, H')
      | some S' => MapP H' mb S' ∧ r82_l2 kt K v mb (i : Int) x v3 len (i : Int) w (w.len : Int) (j : Int) H = kt v mb v3 len (w64 ((i : Int) + 1)) H' := by
  intro m
  induction m with
  | zero =>
    intro j K S H hj hK g hm
    obtain ⟨K, rfl⟩ : ∃ j, K = j + 1 := ⟨K - 1, by omega⟩
    have hlen := hw.len
    refine ⟨H, g, ?_⟩
    rw [List.drop_eq_nil_of_le (by omega), pinI]
    refine ⟨hm, ?_⟩
    rw [r82_l2, if_neg (by omega)]
  | succ m ih =>
    intro j K S H hj hK g hm
    obtain ⟨K, rfl⟩ : ∃ j, K = j + 1 := ⟨K - 1, by omega⟩
    have hlen := hw.len
    have hjl : j < (l.take i).length := by omega
    have hy := hl j hjl
    rw [List.drop_eq_getElem_cons hjl, pinI, r82_l2, if_pos (show (j : Int) < (w.len : Int) by omega)]
    have eld := (hw.gr g).ldI hjl
    revert hy eld
    generalize (l.take i)[j] = y
    intro hy eld
    simp only [ck, Int.toNat_natCast, Nat.mul_one]
    rw [if_pos (show (0 : Int) ≤ (j : Int) ∧ (j : Int) < (w.len : Int) by omega), eld]
    simp only [Option.bind_some]
    rw [w64_id (n := (i : Int) - j) (by omega) (by omega), w64_id (n := x - y) (by omega) (by omega)]
    obtain ⟨D, hD, hD', gD, nD⟩ := sts2 H (.int .i64 ((i : Int) - j)) (.int .i64 (x - y)) (.int .i64 0) (.int .i64 0)
    rw [hD]
    simp only [Option.bind_some]
    have gB := g.trans gD
    have hmD : MapP D mb S := hm.keep (gD.2 _ (Hp.get_lt hm.1))
    have q0 : D.ldI .i64 H.n 0 = some ((i : Int) - j) := by simp [Hp.ldI, ld_of_get hD', AV.asI]
    have q1 : D.ldI .i64 H.n (0 + 1) = some (x - y) := by simp [Hp.ldI, ld_of_get hD', AV.asI]
    by_cases hxy : x = y
    · rw [if_pos hxy, if_pos (show x = y ∨ ((i : Int) - j, x - y) ∈ S from .inl hxy)]
      exact ⟨D, gB, by rw [r82_j3, if_pos rfl]⟩
    · rw [if_neg hxy, q0]
      simp only [Option.bind_some]
      rw [q1]
      simp only [Option.bind_some]
      have hget := hmD.get ((i : Int) - j, x - y)
      unfold pk at hget
      rw [hget]
      simp only [Option.bind_some]
      by_cases hS : ((i : Int) - j, x - y) ∈ S
      · rw [if_pos hS, if_pos (show x = y ∨ ((i : Int) - j, x - y) ∈ S from .inr hS)]
        simp only [Option.getD_some, AV.asB, Option.bind_some]
        exact ⟨D, gB, by rw [r82_j3, if_pos rfl]⟩
      · rw [if_neg hS, if_neg (show ¬ (x = y ∨ ((i : Int) - j, x - y) ∈ S) from fun h => h.elim hxy hS)]
        simp only [Option.getD_none, AV.asB, Option.bind_some]
        rw [r82_j3, if_neg (by simp), q0]
        simp only [Option.bind_some]
        rw [q1]
        simp only [Option.bind_some]
        obtain ⟨h1, h2⟩ := hmD.set ((i : Int) - j, x - y)
        rw [if_neg hS] at h1 h2
        unfold pk at h1
        rw [h1]
        simp only [Option.bind_some]
        have ew : w64 ((j : Int) + 1) = ((j + 1 : Nat) : Int) := by rw [w64_id (by omega) (by omega)]; push_cast; rfl
        rw [ew]
        exact ih (j + 1) K _ _ (by omega) (by omega) ⟨by have := gB.1; simp; omega, fun b hb => by rw [Hp.get_set_other _ _ (by omega), gB.2 b hb]⟩ h2

theorem pins_outer {l : List Int} {Hb : Hp} {v : Sl} (hv : IS Hb v l) (hb : l.length ≤ 1000) : ∀ (m i K : Nat) (S : List (Int × Int)) (H : Hp), i + m = l.length → m < K → Gr Hb H → MapP H Hb.n S → (∀ j (h : j < l.length), j < i → 0 ≤ l[j] ∧ l[j] < l.length) →
    ∃ H', r82_l0 K v Hb.n v (v.len : Int) (i : Int) H = some (pinO l (l.drop i) i S, H') ∧ Gr Hb H' := by
  intro m
  induction m with
  | zero =>
    intro i K S H hi hK g hm hr
    obtain ⟨K, rfl⟩ : ∃ j, K = j + 1 := ⟨K - 1, by omega⟩
    have hlen := hv.ints.len
    rw [r82_l0, if_neg (by omega), List.drop_eq_nil_of_le (by omega), pinO]
    exact ⟨H, rfl, g⟩
  | succ m ih =>
    intro i K S H hi hK g hm hr
    obtain ⟨K, rfl⟩ : ∃ j, K = j + 1 := ⟨K - 1, by omega⟩
    have hlen := hv.ints.len
    have hcap := hv.cap
    have hil : i < l.length := by omega
    have hnil : v.nil = false := by
      cases hn : v.nil with
      | false => rfl
      | true => have := (hv.nil hn).2; subst this; simp at hil
    rw [r82_l0, if_pos (by omega), List.drop_eq_getElem_cons hil, pinO]
    simp only [ck, Int.toNat_natCast, Nat.mul_one]
    rw [if_pos (show (0 : Int) ≤ (i : Int) ∧ (i : Int) < (v.len : Int) by omega), (hv.ints.gr g).ldI hil]
    simp only [Option.bind_some]
    by_cases h1 : l[i] < 0
    · rw [if_pos h1, if_pos (.inl h1), r82_j1, if_pos rfl]
      exact ⟨H, rfl, g⟩
    rw [if_neg h1]
    by_cases h2 : (v.len : Int) ≤ l[i]
    · rw [decide_eq_true h2, if_pos (.inr (by omega)), r82_j1, if_pos rfl]
      exact ⟨H, rfl, g⟩
    rw [decide_eq_false h2, if_neg (show ¬ (l[i] < 0 ∨ (l.length : Int) ≤ l[i]) by omega), r82_j1, if_neg (by simp), ck, if_pos ⟨by omega, hv.opn⟩]
    have hcut := hv.ints.cut hnil (lo := 0) (hi := i) (by omega) (by omega)
    rw [List.drop_zero, Nat.sub_zero] at hcut
    have hli : (l.take i).length = i := by simp; omega
    obtain ⟨H', g', hin⟩ := pins_inner (l := l) (v := v) (v3 := v) (i := i) (mb := Hb.n) (x := l[i]) (hli := hli) (kt := fun v1_ v2_ v3_ v4_ v5_ H_ => r82_l0 K v1_ v2_ v3_ v4_ v5_ H_) (len := (v.len : Int)) hcut (Nat.le_refl _) (by omega) (by omega) (by omega) (fun j h => by
      have hj : j < i := by omega
      have := hr j (by omega) hj
      rw [List.getElem_take]
      omega) i 0 FUEL S H (by omega) (by unfold FUEL; omega) g hm
    rw [List.drop_zero] at hin
    rw [show (0 : Int).toNat = 0 from rfl, Int.toNat_natCast]
    have ew : w64 ((i : Int) + 1) = ((i + 1 : Nat) : Int) := by rw [w64_id (by omega) (by omega)]; push_cast; rfl
    cases hp : pinI l[i] i (l.take i) 0 S with
    | none =>
      rw [hp] at hin
      exact ⟨H', hin, g'⟩
    | some S' =>
      rw [hp] at hin
      obtain ⟨hm', e⟩ := hin
      rw [show ((0 : Nat) : Int) = 0 from rfl] at e
      rw [e, ew]
      exact ih (i + 1) K S' H' (by omega) (by omega) g' hm' (fun j h hj => by
        by_cases e : j = i
        · subst e; omega
        · exact hr j h (by omega))
/-- arePins -/
theorem r82_spec {l : List Int} {H : Hp} {v : Sl} (hv : IS H v l) (hb : l.length ≤ 1000) : ∃ H', r82 v H = some (pinsF l, H') ∧ Gr H H' := by
  unfold r82
  simp only [lt]
  have g : Gr H (H.push (.map (.arr 2 .i64) [])) := .push _ _
  have hm : MapP (H.push (.map (.arr 2 .i64) [])) H.n [] := ⟨by simp, by simp⟩
  have := pins_outer hv hb l.length 0 FUEL [] _ (by omega) (by unfold FUEL; omega) g hm (fun j _ h => by omega)
  exact this
end Go.Lt.P8
