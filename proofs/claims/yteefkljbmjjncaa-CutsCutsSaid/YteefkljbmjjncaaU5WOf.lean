/- PLAIN LAWS OF WHAT IS COMPUTED, for the statement 'CutsCuts'. Nothing is asked of the input. -/
import Derived.Test.YteefkljbmjjncaaU5WFr
set_option linter.unusedVariables false
set_option linter.unusedSimpArgs false
namespace Go.Lt.P2
open Go Go.Lt Go.Proofs
theorem sts3 (H : Hp) (x y z a b c : AV) : ∃ D, (H.push (.cells [a, b, c] false)).sts H.n 0 [x, y, z] = some D ∧ D.get H.n = some (.cells [x, y, z] false) ∧ Gr H D ∧ D.n = H.n + 1 := by
  obtain ⟨D, h1, h2, h3, h4⟩ := sts_blk [x, y, z] 0 (H.push (.cells [a, b, c] false)) [a, b, c] (Hp.get_push_new _ _) (by simp)
  refine ⟨D, h1, h2, ⟨by rw [h3]; simp, fun q hq => ?_⟩, by rw [h3]; simp⟩
  rw [h4 q (by omega), Hp.get_push_old _ _ hq]
/-- Of -/
theorem r18_ok {H : Hp} {v : Sl} {l : List Sd} (hv : SL H v l) (hb : l.length < 9223372036854775808) : Ok (r18 v H) fun w H' => Gr H H' ∧ SL H' w (l.take 9) := by
  unfold r18
  have hlen := hv.len
  rw [hlen]
  refine Ok.loop (L := fun K (s : Sl × Int) H2 => r18_l0 K s.1 v l.length s.2 H2) (fun m s H' => Gr H H' ∧ ∃ i : Nat, s.2 = i ∧ i + m = l.length ∧ AccL H.n H' s.1 ((l.take i).take 9)) ?_ FUEL l.length (⟨true, 0, 0, 0, 0, 0⟩, 0) H (by unfold FUEL; omega) ⟨.refl _, 0, rfl, by omega, by simpa using AccL.nilS⟩
  rintro K m ⟨w, s⟩ H1 ⟨g1, i, rfl, hm, ha⟩ ih
  try dsimp only at *
  rw [r18_l0]
  by_cases h : i < l.length
  · have hg := hv.gr g1
    obtain ⟨E, hE, hE', gE, nE⟩ := sts3 H1 (.int .i64 l[i].1) (.int .i64 l[i].2.1) (.int .i64 l[i].2.2) (.int .i64 0) (.int .i64 0) (.int .i64 0)
    have gB := g1.trans gE
    refine Ok.pos (by omega) (Ok.ck (by omega) (Ok.ld (hg.ldI (i := i) (j := 0) h rfl) (Ok.ld (hg.ldI (i := i) (j := 1) h rfl) (Ok.ld (hg.ldI (i := i) (j := 2) h rfl) (Ok.ld hE ?_)))))
    refine Ok.ite (fun c => Ok.ld (ldI_get hE' rfl) (Ok.ld (ldI_get hE' rfl) (Ok.ld (ldI_get hE' rfl) ?_))) fun c => ?_
    · have ha' := ha.gr gE
      rw [List.take_of_length_le (by rw [List.length_take]; omega)] at ha'
      refine Ok.bind (ha'.push gB l[i] rfl rfl (by rw [List.length_take]; omega)) fun w2 H3 ⟨ha3, g3, _⟩ => ?_
      rw [w64_succ (by omega)]
      refine ih (m - 1) (w2, _) H3 (by omega) ⟨g3, i + 1, rfl, by omega, ?_⟩
      rw [List.take_succ_eq_append_getElem h, List.take_of_length_le (by simp; omega)]
      exact ha3
    · rw [w64_succ (by omega)]
      refine ih (m - 1) (w, _) E (by omega) ⟨gB, i + 1, rfl, by omega, ?_⟩
      rw [List.take_take, Nat.min_eq_left (by omega)] at ha ⊢
      exact ha.gr gE
  · have hi : i = l.length := by omega
    subst hi
    rw [List.take_length] at ha
    exact Ok.neg (by omega) (Ok.ret ⟨g1, ha.sl⟩)
/-- fracs -/
theorem r28_ok {H : Hp} {v : Sl} {l : List Pr} (hv : SL H v l) (hb : l.length < 9223372036854775808) : Ok (r28 v H) fun w H' => Gr H H' ∧ SL H' w (l.take 9) := by
  unfold r28
  have h1 := hv.len
  have hc := hv.cap
  have ho := hv.opn
  have e : (if 9 < (v.len : Int) then (9 : Int) else (v.len : Int)) = ((min 9 l.length : Nat) : Int) := by
    by_cases h : 9 < (v.len : Int)
    · rw [if_pos h]; omega
    · rw [if_neg h]; omega
  rw [e]
  refine Ok.ck ⟨by omega, ho⟩ ?_
  rw [Int.toNat_natCast]
  have hs := hv.cut (lo := 0) (hi := min 9 l.length) (by omega) (by omega)
  have hl : (l.drop 0).take (min 9 l.length - 0) = l.take 9 := by
    rw [List.drop_zero, Nat.sub_zero]
    by_cases h : 9 ≤ l.length
    · rw [Nat.min_eq_left h]
    · rw [Nat.min_eq_right (by omega), List.take_of_length_le (by omega), List.take_of_length_le (by omega)]
  rw [hl] at hs
  show Ok ((cloneR 2 _ H).bind fun p2 => some (p2.1, p2.2)) _
  exact Ok.bind (clone_ok hs (by simp; omega) rfl) fun w H2 ⟨g2, a, b, hw⟩ => Ok.ret ⟨g2, a⟩
end Go.Lt.P2
