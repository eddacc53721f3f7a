/- PLAIN LAWS OF WHAT IS COMPUTED, for the statement 'PairsSplits'. Nothing is asked of the input. -/
import Derived.Test.YthmhdbmpeepmaaaLAuto
import Derived.Test.YthmhdbmpeepmaaaU9USplit
import Derived.Test.YthmhdbmpeepmaaaU9UTake
import Derived.Test.YthmhdbmpeepmaaaU9URowR
import Derived.Test.YthmhdbmpeepmaaaU9UQ2
set_option linter.unusedVariables false
namespace Go.Lt.P8
open Go Go.Lt Go.Proofs
theorem encs_ints (l : List Int) : encs l = l.map (.int .i64) := by
  induction l with
  | nil => rfl
  | cons x l ih => rw [encs_cons, ih]; rfl
theorem IS.sl {H : Hp} {v : Sl} {l : List Int} (h : IS H v l) : SL H v l := ⟨by rw [encs_ints]; exact h.ints, h.cap, h.opn, h.nil⟩
theorem _root_.Go.Lt.SL.is {H : Hp} {v : Sl} {l : List Int} (h : SL H v l) : IS H v l := ⟨by have := h.cs; rw [encs_ints] at this; exact this, h.cap, h.opn, h.nil⟩
/-- Turn of the reference -/
theorem r44_ok {l : List Int} {H : Hp} {v : Sl} (hv : SL H v l) (hb : l.length ≤ 1000000) : Ok (r44 v H) fun w H' => Gr H H' ∧ SL H' w l.reverse := by
  unfold r44
  have hlen := hv.len
  rw [w64_id (by omega) (by omega)]
  refine Ok.loop (L := fun K (s : Sl × Int) H => r44_l0 K v s.1 s.2 H) (fun m s H' => s.2 = (m : Int) - 1 ∧ m ≤ l.length ∧ Gr H H' ∧ AccL H.n H' s.1 (l.drop m).reverse) ?_ FUEL l.length (⟨true, 0, 0, 0, 0, 0⟩, (v.len : Int) - 1) H (by unfold FUEL; omega) ⟨by rw [hlen], Nat.le_refl _, .refl _, by simp; exact .nilS⟩
  rintro K m ⟨w, i⟩ H1 ⟨hi, hm, g, hw⟩ ih
  try dsimp only at *
  subst hi
  rw [r44_l0]
  cases m with
  | zero => exact Ok.neg (by omega) (Ok.ret ⟨g, by simpa using hw.sl⟩)
  | succ m =>
    have e : ((m + 1 : Nat) : Int) - 1 = (m : Int) := by omega
    rw [e]
    refine Ok.pos (by omega) (Ok.ck (by omega) (Ok.ld ((hv.gr g).ldI (i := m) (j := 0) (by omega) rfl) ?_))
    refine Ok.bind (hw.push g l[m] rfl rfl (by simp; omega)) fun w' H2 ⟨h1, g2, _⟩ => ?_
    have e2 : w64 ((m : Int) - 1) = (m : Int) - 1 := w64_id (by omega) (by omega)
    dsimp only
    rw [e2]
    refine ih m (w', _) H2 (by omega) ⟨rfl, by omega, g2, ?_⟩
    rw [List.drop_eq_getElem_cons (show m < l.length by omega), List.reverse_cons]
    exact h1
/-- Quarter of the reference -/
theorem r46_ok {l : List Int} {H : Hp} {v : Sl} (hv : SL H v l) (hb : l.length ≤ 1000) (hr : ∀ i (h : i < l.length), 0 ≤ l[i] ∧ l[i] < l.length) : Ok (r46 v H) fun w H' => Gr H H' ∧ SL H' w (quarter l) := by
  unfold r46
  have hlen := hv.len
  refine Ok.ck (by omega) (Ok.lt ?_)
  rw [Int.toNat_natCast, hlen]
  refine Ok.loop (L := fun K (s : Int) H2 => r46_l0 K v ⟨false, H.n, 0, l.length, l.length, 0⟩ v l.length s H2) (fun m s H' => ∃ i : Nat, s = i ∧ i + m = l.length ∧ Gr H H' ∧ ∃ q : List Int, q.length = l.length ∧ H'.get H.n = some (.cells (q.map (.int .i64)) false) ∧ qF l.length (l.drop i) i q = quarter l) ?_ FUEL l.length 0 _ (by unfold FUEL; omega) ⟨0, rfl, by omega, .push _ _, List.replicate l.length 0, by simp, by rw [Hp.get_push_new, zeros1], rfl⟩
  rintro K m s H1 ⟨i, rfl, hm, g, q, hq, hg, hF⟩ ih
  try dsimp only at *
  rw [r46_l0]
  by_cases h : i < l.length
  · have hx := hr i h
    refine Ok.pos (by omega) (Ok.ck (by omega) (Ok.ld ((hv.gr g).ldI (i := i) (j := 0) h rfl) (Ok.ck (by omega) ?_)))
    simp only [Nat.mul_one, Nat.zero_add]
    refine Ok.st hg (by simp; omega) fun H2 e2 hg2 => ?_
    rw [w64_succ (by omega)]
    refine ih (m - 1) _ H2 (by omega) ⟨i + 1, rfl, by omega, e2 ▸ g.set (Nat.le_refl _), q.set l[i].toNat ((l.length : Int) - 1 - i), by simp [hq], ?_, ?_⟩
    · rw [hg2, List.map_set, hlen, w64_id (n := (l.length : Int) - 1) (by omega) (by omega), w64_id (n := (l.length : Int) - 1 - i) (by omega) (by omega)]
    · rw [← hF, List.drop_eq_getElem_cons h, qF]
  · refine Ok.neg (by omega) (Ok.ret ⟨g, ?_⟩)
    rw [List.drop_eq_nil_of_le (by omega), qF] at hF
    subst hF
    refine .of_get (by rw [encs_ints]; exact hg) rfl (by simp [hq]) (Nat.le_refl _) (.inl rfl) rfl
/-- All of the reference -/
theorem r65_ok {l : List Int} {H : Hp} {v : Sl} (hv : SL H v l) (hb : l.length ≤ 1000) {n : Nat} (hn : n ≤ 1000) : Ok (r65 v n H) fun b H' => Gr H H' ∧ (b = true ↔ (∀ x : Nat, x < n → (occF l x 0).length = 1) ∧ l.length = n) := by
  unfold r65
  have hlen := hv.len
  refine Ok.loop (L := fun K (s : Int) H2 => r65_l0 K v n n s H2) (fun m s H' => ∃ i : Nat, s = i ∧ i + m = n ∧ Gr H H' ∧ ∀ x : Nat, x < i → (occF l x 0).length = 1) ?_ FUEL n 0 _ (by unfold FUEL; omega) ⟨0, rfl, by omega, .refl _, fun x h => by omega⟩
  rintro K m s H1 ⟨i, rfl, hm, g, hi⟩ ih
  try dsimp only at *
  rw [r65_l0]
  by_cases h : i < n
  · refine Ok.pos (by omega) ?_
    obtain ⟨w, H2, e2, g2, i2⟩ := r78_spec (x := (i : Int)) (hv.gr g).is.ints (by omega)
    refine Ok.ld e2 ?_
    have hw := i2.ints.len
    dsimp only
    by_cases h1 : (occF l i 0).length = 1
    · refine Ok.neg (by omega) ?_
      rw [w64_succ (by omega)]
      refine ih (m - 1) _ H2 (by omega) ⟨i + 1, rfl, by omega, g.trans g2, fun x hx => ?_⟩
      by_cases e : x = i
      · subst e; exact h1
      · exact hi x (by omega)
    · refine Ok.pos (by omega) (Ok.ret ⟨g.trans g2, ?_⟩)
      simp only [Bool.false_eq_true, false_iff]
      rintro ⟨a, b⟩
      exact h1 (a i h)
  · refine Ok.neg (by omega) (Ok.ret ⟨g, ?_⟩)
    rw [decide_eq_true_iff]
    constructor
    · intro e; exact ⟨fun x hx => hi x (by omega), by omega⟩
    · rintro ⟨_, e⟩; omega
end Go.Lt.P8
