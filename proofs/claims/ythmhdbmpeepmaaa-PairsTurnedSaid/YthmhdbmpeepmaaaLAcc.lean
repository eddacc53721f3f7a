/- THE LIBRARY OF THESE PROOFS, A PART: an abstract heap, and that the model's steps keep to it. Nothing is asked of the input. -/
import Derived.Test.YthmhdbmpeepmaaaLPure
set_option linter.unusedVariables false
namespace Go.Lt

theorem ld_push_new (H : Hp) (cs : List AV) (ro : Bool) (o : Nat) : (H.push (.cells cs ro)).ld H.n o = cs[o]? := by simp [Hp.ld]
theorem ld_push_old (H : Hp) (k : Blk) {b : Nat} (o : Nat) (h : b < H.n) : (H.push k).ld b o = H.ld b o := by unfold Hp.ld; rw [Hp.get_push_old H k h]
theorem ld_set_other (H : Hp) (k : Blk) {b b' : Nat} (o : Nat) (h : b' ≠ b) : (H.set b k).ld b' o = H.ld b' o := by unfold Hp.ld; rw [Hp.get_set_other H k h]
theorem ld_set_same (H : Hp) (cs : List AV) (ro : Bool) {b : Nat} (o : Nat) (h : b < H.n) : (H.set b (.cells cs ro)).ld b o = cs[o]? := by unfold Hp.ld; rw [Hp.get_set_same H _ h]
theorem st_eq {H : Hp} {b o : Nat} {cs : List AV} {v : AV} (h : H.get b = some (.cells cs false)) (ho : o < cs.length) : H.st b o v = some (H.set b (.cells (cs.set o v) false)) := by
  unfold Hp.st; rw [h]; simp [ho]
theorem ld_of_get {H : Hp} {b o : Nat} {cs : List AV} {ro : Bool} (h : H.get b = some (.cells cs ro)) : H.ld b o = cs[o]? := by unfold Hp.ld; rw [h]
theorem ld_congr {H H' : Hp} {b : Nat} (o : Nat) (h : H'.get b = H.get b) : H'.ld b o = H.ld b o := by unfold Hp.ld; rw [h]
theorem Cs.of_get {H : Hp} {es : Nat} {v : Sl} {cs : List AV} {ro : Bool} (h : H.get v.b = some (.cells cs ro)) (ho : v.o = 0) (hl : cs.length = v.len * es) : Cs H es v cs :=
  ⟨hl, lds_of_get fun i hi => by rw [ld_of_get h, ho]; simp [hi]⟩
theorem Cs.congr {H H' : Hp} {es : Nat} {v : Sl} {cs : List AV} (h : Cs H es v cs) (hg : H'.get v.b = H.get v.b) : Cs H' es v cs :=
  ⟨h.1, lds_of_get fun i hi => by rw [ld_congr _ hg]; exact (lds_get h.2).2 i hi⟩
theorem Cs.gr {H H' : Hp} (g : Gr H H') {es : Nat} {v : Sl} {cs : List AV} (h : Cs H es v cs) : Cs H' es v cs := ⟨h.1, g.lds h.2⟩
theorem Cs.lds {H : Hp} {es : Nat} {v : Sl} {cs : List AV} (h : Cs H es v cs) : H.lds v.b v.o (v.len * es) = some cs := by rw [← h.1]; exact h.2
theorem Cs.ld {H : Hp} {es : Nat} {v : Sl} {cs : List AV} (h : Cs H es v cs) {i : Nat} (hi : i < cs.length) : H.ld v.b (v.o + i) = some cs[i] := (lds_get h.2).2 i hi

def nilS : Sl := ⟨true, 0, 0, 0, 0, 0⟩
/-- a slice that this call has put together with append -/
def Acc (n0 es : Nat) (H : Hp) (v : Sl) (cs : List AV) : Prop :=
  (v = nilS ∧ cs = []) ∨ (v.nil = false ∧ v.o = 0 ∧ v.opn = es ∧ v.cap = v.len ∧ n0 ≤ v.b ∧ H.get v.b = some (.cells cs false) ∧ cs.length = v.len * es)
theorem Acc.nilS {n0 es : Nat} {H : Hp} : Acc n0 es H ⟨true, 0, 0, 0, 0, 0⟩ [] := .inl ⟨rfl, rfl⟩
theorem Acc.cs {n0 es : Nat} {H : Hp} {v : Sl} {cs : List AV} (h : Acc n0 es H v cs) : Cs H es v cs := by
  rcases h with ⟨rfl, rfl⟩ | ⟨_, ho, _, _, _, hg, hl⟩
  · exact ⟨by simp [Lt.nilS], rfl⟩
  · exact .of_get hg ho hl
theorem Acc.lt {n0 es : Nat} {H : Hp} {v : Sl} {cs : List AV} (h : Acc n0 es H v cs) (hn : v.nil = false) : v.b < H.n := by
  rcases h with ⟨rfl, rfl⟩ | ⟨_, _, _, _, _, hg, _⟩
  · simp [Lt.nilS] at hn
  · exact Hp.get_lt hg
theorem Acc.keep {n0 es : Nat} {H H' : Hp} {v : Sl} {cs : List AV} (h : Acc n0 es H v cs) (hg : v.nil = false → H'.get v.b = H.get v.b) : Acc n0 es H' v cs := by
  rcases h with h | ⟨h1, h2, h3, h4, h5, h6, h7⟩
  · exact .inl h
  · exact .inr ⟨h1, h2, h3, h4, h5, by rw [hg h1]; exact h6, h7⟩
theorem Acc.gr {n0 es : Nat} {H H' : Hp} (g : Gr H H') {v : Sl} {cs : List AV} (h : Acc n0 es H v cs) : Acc n0 es H' v cs := h.keep fun hn => g.2 _ (h.lt hn)

/-- all but one block as it was -/
def But (v : Sl) (H H' : Hp) : Prop := H.n ≤ H'.n ∧ ∀ b, b < H.n → (v.nil = false → b ≠ v.b) → H'.get b = H.get b
theorem Acc.app {n0 es : Nat} {H : Hp} {v : Sl} {cs xs : List AV} {k : Nat} (h : Acc n0 es H v cs) (hes : 0 < es) (hx : xs.length = k * es) (hb : v.len + k ≤ 4294967296) (hn : n0 ≤ H.n) :
    ∃ v' H', H.app es v xs k = some (v', H') ∧ Acc n0 es H' v' (cs ++ xs) ∧ But v H H' ∧ (v' = v ∨ H.n ≤ v'.b) ∧ v'.len = v.len + k ∧ (0 < k → v'.nil = false) ∧ (v.nil = false → v'.nil = false) := by
  unfold Hp.app
  rw [if_pos hb]
  rcases h with ⟨rfl, rfl⟩ | ⟨h1, h2, h3, h4, h5, h6, h7⟩
  · simp only [Lt.nilS, Nat.zero_add]
    by_cases hk : k ≤ 0
    · have hk : k = 0 := by omega
      subst hk
      have : xs = [] := List.length_eq_zero_iff.1 (by omega)
      subst this
      exact ⟨_, _, rfl, .inl ⟨rfl, rfl⟩, ⟨Nat.le_refl _, fun _ _ _ => rfl⟩, .inl rfl, rfl, fun h => absurd h (by omega), fun h => by cases h⟩
    · rw [if_neg hk]
      simp only [Nat.zero_mul, Hp.lds, Option.bind_some, if_true, List.nil_append]
      exact ⟨_, _, rfl, .inr ⟨rfl, rfl, rfl, rfl, hn, by simp, hx⟩, ⟨by simp, fun b hb _ => Hp.get_push_old _ _ hb⟩, .inr (Nat.le_refl _), rfl, fun _ => rfl, fun _ => rfl⟩
  · by_cases hk : k = 0
    · subst hk
      have : xs = [] := List.length_eq_zero_iff.1 (by omega)
      subst this
      rw [if_pos (by omega), if_neg (by simp [h1])]
      simp only [Hp.sts, Option.map_some, Nat.add_zero, List.append_nil]
      have e : (⟨false, v.b, v.o, v.len, v.cap, v.opn⟩ : Sl) = v := by cases v; simp_all
      rw [e]
      exact ⟨_, _, rfl, .inr ⟨h1, h2, h3, h4, h5, h6, h7⟩, ⟨Nat.le_refl _, fun _ _ _ => rfl⟩, .inl rfl, rfl, fun h => absurd h (by omega), fun _ => h1⟩
    · rw [if_neg (by omega)]
      have hl := (Cs.of_get (es := es) h6 h2 h7).lds
      rw [hl]
      simp only [Option.bind_some]
      rw [if_neg (by omega), if_pos h3, h6]
      simp only
      refine ⟨_, _, rfl, .inr ⟨rfl, rfl, rfl, rfl, hn, ?_, by simp only [List.length_append, h7, hx, Nat.add_mul]⟩, ⟨by simp, fun b hb hne => ?_⟩, .inr (Nat.le_refl _), rfl, fun _ => rfl, fun _ => rfl⟩
      · rw [Hp.get_push, if_pos (by simp)]
      · rw [Hp.get_push_old _ _ (by simpa using hb), Hp.get_set_other _ _ (hne h1)]
theorem Acc.apN {n0 es : Nat} {H : Hp} {v : Sl} {cs xs : List AV} {k : Nat} (h : Acc n0 es H v cs) (hes : 0 < es) (hx : xs.length = k * es) (hb : v.len + k ≤ 4294967296) (hn : n0 ≤ H.n) :
    ∃ v' H', H.apN es v xs k = some (v', H') ∧ Acc n0 es H' v' (cs ++ xs) ∧ But v H H' ∧ (v' = v ∨ H.n ≤ v'.b) ∧ v'.len = v.len + k ∧ (0 < k → v'.nil = false) ∧ (v.nil = false → v'.nil = false) := by
  have g := Gr.push H (.cells xs false)
  obtain ⟨v', H', h1, h2, h3, h4, h5⟩ := (h.gr g).app hes hx hb (by have := g.1; omega)
  refine ⟨v', H', h1, h2, ⟨by have := g.1; have := h3.1; omega, fun b hb hne => by rw [h3.2 b (by simp; omega) hne, g.2 b hb]⟩, ?_, h5⟩
  rcases h4 with h4 | h4
  · exact .inl h4
  · simp at h4; exact .inr (by omega)
theorem But.gr {es : Nat} {H0 H H' : Hp} {v : Sl} {cs : List AV} (h : But v H H') (ha : Acc H0.n es H v cs) (g : Gr H0 H) : Gr H0 H' :=
  ⟨Nat.le_trans g.1 h.1, fun b hb => by
    rw [h.2 b (Nat.lt_of_lt_of_le hb g.1) (fun hn => ?_), g.2 b hb]
    rcases ha with ⟨rfl, rfl⟩ | ⟨_, _, _, _, h5, _⟩
    · simp [Lt.nilS] at hn
    · omega⟩

/-- a copy behind an empty literal -/
theorem app_new {H : Hp} {xs : List AV} {es k : Nat} (hes : 0 < es) (hx : xs.length = k * es) (hb : k ≤ 4294967296) :
    ∃ v' H', (H.push (.cells [] false)).app es ⟨false, H.n, 0, 0, 0, 0⟩ xs k = some (v', H') ∧ Gr H H' ∧ H'.get v'.b = some (.cells xs false) ∧ v'.nil = false ∧ v'.o = 0 ∧ v'.len = k ∧ v'.cap = k ∧ H.n ≤ v'.b ∧ v'.b < H'.n := by
  unfold Hp.app
  simp only [Nat.zero_add]
  rw [if_pos hb]
  by_cases hk : k ≤ 0
  · have hk : k = 0 := by omega
    subst hk
    have : xs = [] := List.length_eq_zero_iff.1 (by omega)
    subst this
    rw [if_pos (by omega)]
    simp only [Bool.false_eq_true, if_false, Hp.sts, Option.map_some]
    exact ⟨_, _, rfl, .push _ _, by simp, rfl, rfl, rfl, rfl, Nat.le_refl _, by simp⟩
  · rw [if_neg hk]
    simp only [Nat.zero_mul, Hp.lds, Option.bind_some, if_true, List.nil_append]
    exact ⟨_, _, rfl, (Gr.push _ _).trans (.push _ _), by rw [Hp.get_push, if_pos (by simp)], rfl, rfl, rfl, rfl, by simp, by simp⟩
theorem Ints.cut {H : Hp} {v : Sl} {l : List Int} (h : Ints H v l) (hn : v.nil = false) {lo hi : Nat} (h1 : lo ≤ hi) (h2 : hi ≤ l.length) : Ints H (v.cut 1 lo hi) ((l.drop lo).take (hi - lo)) := by
  unfold Sl.cut
  rw [if_neg (by simp [hn])]
  refine .mk (by simp; omega) fun i hi' => ?_
  simp at hi'
  simp only [Nat.mul_one]
  rw [Nat.add_assoc, h.ld (i := lo + i) (by omega)]
  simp

end Go.Lt
