/- PLAIN LAWS OF WHAT IS COMPUTED, for the statement 'PairsRenamed'. Nothing is asked of the input. -/
import Derived.Test.YthmhdbmpeepmaaaU17URrP
import Derived.Test.YthmhdbmpeepmaaaLB
set_option linter.unusedVariables false
set_option linter.unusedSimpArgs false
namespace Go.Lt.P8
open Go Go.Lt
/-- rounds, in plain words -/
structure RoundsV (n : Nat) (ls : List (List Pr)) (S : List Pr) : Prop where
  each : ∀ r ∈ ls, r.length = n ∧ srt r = true ∧ (∀ p ∈ r, inP n p) ∧ (both r).Nodup
  once : (S ++ ls.flatten).Nodup
theorem both_nodup {r : List Pr} (h : (both r).Nodup) : r.Nodup := by
  rw [List.nodup_iff_pairwise_ne]
  exact (both_inj h).imp fun h e => h (by rw [e])
theorem isRF_iff {n : Nat} : ∀ (ls : List (List Pr)) (S : List Pr), S.Nodup → (isRF n ls S = true ↔ RoundsV n ls S) := by
  intro ls
  induction ls with
  | nil => intro S hS; simp only [isRF, true_iff]; exact ⟨by simp, by simpa using hS⟩
  | cons r ls ih =>
    intro S hS
    rw [isRF]
    constructor
    · intro h
      split at h
      · rename_i hc
        cases hq : rdP n r S 0 with
        | none => rw [hq] at h; cases h
        | some q =>
          obtain ⟨S', P⟩ := q
          rw [hq] at h
          simp only at h
          split at h
          · rename_i hP
            subst hP
            obtain ⟨a, b, c, rfl, e⟩ := (rdP_some ..).1 hq
            have hb := (full_iff a hc.1).1 e.symm
            have hS2 : (S ++ r).Nodup := List.nodup_append.2 ⟨hS, c, fun x hx y hy e => b y hy (e ▸ hx)⟩
            obtain ⟨h1, h2⟩ := (ih _ hS2).1 h
            refine ⟨fun x hx => ?_, by rw [List.flatten_cons, ← List.append_assoc]; exact h2⟩
            rcases List.mem_cons.1 hx with rfl | hx
            · exact ⟨hc.1, hc.2, a, hb⟩
            · exact h1 x hx
          · cases h
      · cases h
    · rintro ⟨h1, h2⟩
      obtain ⟨a, b, c, d⟩ := h1 r (by simp)
      rw [List.flatten_cons, ← List.append_assoc] at h2
      have hS2 := (List.nodup_append.1 h2).1
      have hq : rdP n r S 0 = some (S ++ r, 2 ^ (2 * n) - 1) := (rdP_some ..).2 ⟨c, fun p hp hs => (List.nodup_append.1 hS2).2.2 p hs p hp rfl, both_nodup d, rfl, ((full_iff c a).2 d).symm⟩
      rw [if_pos ⟨a, b⟩, hq]
      simp only [if_true]
      exact (ih _ hS2).2 ⟨fun x hx => h1 x (by simp [hx]), h2⟩
/-- a pair of players renamed -/
def ren (nm : Int → Int) (p : Pr) : Pr := (if nm p.2 < nm p.1 then nm p.2 else nm p.1, if nm p.1 < nm p.2 then nm p.2 else nm p.1)
structure Names (n : Nat) (nm : Int → Int) : Prop where
  rng : ∀ x, 0 ≤ x → x < 2 * (n : Int) → 0 ≤ nm x ∧ nm x < 2 * (n : Int)
  inj : ∀ x y, 0 ≤ x → x < 2 * (n : Int) → 0 ≤ y → y < 2 * (n : Int) → nm x = nm y → x = y
theorem ren_in {n : Nat} {nm : Int → Int} (hn : Names n nm) {p : Pr} (h : inP n p) : inP n (ren nm p) := by
  unfold inP at h ⊢
  have a := hn.rng p.1 (by omega) (by omega)
  have b := hn.rng p.2 (by omega) (by omega)
  have c : nm p.1 ≠ nm p.2 := fun e => by have := hn.inj _ _ (by omega) (by omega) (by omega) (by omega) e; omega
  unfold ren
  dsimp only
  split <;> split <;> omega
theorem ren_inj {n : Nat} {nm : Int → Int} (hn : Names n nm) {p q : Pr} (hp : inP n p) (hq : inP n q) (e : ren nm p = ren nm q) : p = q := by
  unfold inP at hp hq
  obtain ⟨e1, e2⟩ := Prod.mk.inj e
  have i11 := hn.inj p.1 q.1 (by omega) (by omega) (by omega) (by omega)
  have i12 := hn.inj p.1 q.2 (by omega) (by omega) (by omega) (by omega)
  have i21 := hn.inj p.2 q.1 (by omega) (by omega) (by omega) (by omega)
  have i22 := hn.inj p.2 q.2 (by omega) (by omega) (by omega) (by omega)
  have c : nm p.1 ≠ nm p.2 := fun e => by have := hn.inj _ _ (by omega) (by omega) (by omega) (by omega) e; omega
  have d : nm q.1 ≠ nm q.2 := fun e => by have := hn.inj _ _ (by omega) (by omega) (by omega) (by omega) e; omega
  by_cases h1 : nm p.2 < nm p.1 <;> by_cases h2 : nm q.2 < nm q.1
  · rw [if_pos h1, if_pos h2] at e1
    rw [if_neg (by omega), if_neg (by omega)] at e2
    exact Prod.ext (i11 e2) (i22 e1)
  · rw [if_pos h1, if_neg h2] at e1
    rw [if_neg (by omega), if_pos (by omega)] at e2
    have := i12 e2; have := i21 e1; omega
  · rw [if_neg h1, if_pos h2] at e1
    rw [if_pos (by omega), if_neg (by omega)] at e2
    have := i12 e1; have := i21 e2; omega
  · rw [if_neg h1, if_neg h2] at e1
    rw [if_pos (by omega), if_pos (by omega)] at e2
    exact Prod.ext (i11 e1) (i22 e2)
theorem both_ren {nm : Int → Int} : ∀ (r : List Pr), (both (r.map (ren nm))).Perm ((both r).map nm) := by
  intro r
  induction r with
  | nil => exact .refl _
  | cons p r ih =>
    have e1 : both ((p :: r).map (ren nm)) = [(ren nm p).1, (ren nm p).2] ++ both (r.map (ren nm)) := rfl
    have e2 : (both (p :: r)).map nm = [nm p.1, nm p.2] ++ (both r).map nm := rfl
    rw [e1, e2]
    refine List.Perm.append ?_ ih
    unfold ren
    dsimp only
    by_cases h1 : nm p.2 < nm p.1
    · rw [if_pos h1, if_neg (by omega)]; exact .swap _ _ _
    · rw [if_neg h1]
      by_cases h2 : nm p.1 < nm p.2
      · rw [if_pos h2]
      · rw [if_neg h2, show nm p.2 = nm p.1 by omega]
theorem nodup_map_on {α β : Type} {f : α → β} : ∀ {l : List α}, (∀ a ∈ l, ∀ b ∈ l, f a = f b → a = b) → l.Nodup → (l.map f).Nodup := by
  intro l
  induction l with
  | nil => intro _ _; simp
  | cons x l ih =>
    intro h hn
    rw [List.nodup_cons] at hn
    rw [List.map_cons, List.nodup_cons]
    refine ⟨fun hm => ?_, ih (fun a ha b hb => h a (by simp [ha]) b (by simp [hb])) hn.2⟩
    obtain ⟨y, hy, e⟩ := List.mem_map.1 hm
    have := h y (by simp [hy]) x (by simp) e
    subst this
    exact hn.1 hy
/-- some of the rounds put in place of others -/
def Renamed (nm : Int → Int) (r r' : List Pr) : Prop := r'.Perm (r.map (ren nm)) ∧ srt r' = true
theorem flatten_ren {nm : Int → Int} : ∀ {ls ms : List (List Pr)}, ls.length = ms.length → (∀ i (h : i < ls.length) (h' : i < ms.length), Renamed nm ls[i] ms[i]) → ms.flatten.Perm (ls.flatten.map (ren nm)) := by
  intro ls
  induction ls with
  | nil => intro ms hl _; have : ms = [] := List.length_eq_zero_iff.1 hl.symm; subst this; exact .refl _
  | cons r ls ih =>
    intro ms hl h
    cases ms with
    | nil => simp at hl
    | cons r' ms =>
      rw [List.flatten_cons, List.flatten_cons, List.map_append]
      exact (h 0 (by simp) (by simp)).1.append (ih (by simpa using hl) fun i h1 h2 => h (i + 1) (by simpa using h1) (by simpa using h2))
theorem RoundsV.renamed {n : Nat} {nm : Int → Int} (hn : Names n nm) {ls ms : List (List Pr)} (h : RoundsV n ls []) (hl : ls.length = ms.length) (hr : ∀ i (h : i < ls.length) (h' : i < ms.length), Renamed nm ls[i] ms[i]) : RoundsV n ms [] := by
  refine ⟨fun r' hr' => ?_, ?_⟩
  · obtain ⟨i, hi, rfl⟩ := List.mem_iff_getElem.1 hr'
    obtain ⟨p, s⟩ := hr i (by omega) hi
    obtain ⟨a, b, c, d⟩ := h.each _ (List.getElem_mem (show i < ls.length by omega))
    refine ⟨by rw [p.length_eq]; simpa using a, s, fun q hq => ?_, ?_⟩
    · obtain ⟨x, hx, rfl⟩ := List.mem_map.1 (p.mem_iff.1 hq)
      exact ren_in hn (c x hx)
    · have hb : (both ms[i]).Perm ((both ls[i]).map nm) := by
        refine List.Perm.trans ?_ (both_ren _)
        exact p.flatMap_right _
      rw [hb.nodup_iff]
      refine nodup_map_on (fun x hx y hy e => ?_) d
      have rx := both_rng c hx
      have ry := both_rng c hy
      exact hn.inj x y rx.1 rx.2 ry.1 ry.2 e
  · rw [List.nil_append, (flatten_ren hl hr).nodup_iff]
    refine nodup_map_on (fun x hx y hy e => ?_) (by simpa using h.once)
    obtain ⟨r, hr1, hx⟩ := List.mem_flatten.1 hx
    obtain ⟨t, ht1, hy⟩ := List.mem_flatten.1 hy
    exact ren_inj hn ((h.each r hr1).2.2.1 x hx) ((h.each t ht1).2.2.1 y hy) e
end Go.Lt.P8
