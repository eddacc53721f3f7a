/- PLAIN LAWS OF WHAT IS COMPUTED, for the statement 'PairsSpread'. Nothing is asked of the input. -/
import Derived.Test.YthmhdbmpeepmaaaU12UThB
import Derived.Test.YthmhdbmpeepmaaaLB
set_option linter.unusedVariables false
set_option linter.unusedSimpArgs false
namespace Go.Lt.P8
open Go Go.Lt Go.Proofs
/-- the search for the first triples -/
def growF (v : Nat) : Nat → List Tr → Option (List Tr)
  | 0, _ => none
  | f + 1, l => match firstP v (pairs3 l) with
    | none => some l
    | some p => (List.range' (p.2.toNat + 1) (v - (p.2.toNat + 1))).findSome? fun (z : Nat) =>
      if (prs3 (p.1, p.2, (z : Int))).any (fun q => decide (q ∈ pairs3 l)) = true then none else growF v f (l ++ [(p.1, p.2, (z : Int))])
/-- what is common to all that the search holds -/
structure Fine (v : Nat) (l : List Tr) : Prop where
  rng : ∀ t ∈ l, inT v t
  once : (pairs3 l).Nodup
theorem Fine.len {v : Nat} (hv : 3 ≤ v ∧ v ≤ 9) {l : List Tr} (h : Fine v l) : l.length ≤ 12 := by
  have h1 := (allP_small v (by simp; omega)).1
  have h2 := nodup_le h.once fun p hp => by
    obtain ⟨t, ht, hpt⟩ := List.mem_flatMap.1 hp
    exact prs3_all (h.rng t ht) p hpt
  rw [pairs3_len] at h2
  omega
theorem pairs3_one (t : Tr) : pairs3 [t] = prs3 t := by simp [pairs3]
theorem Fine.more {v : Nat} {l : List Tr} (h : Fine v l) {t : Tr} (ht : inT v t) (hf : ((prs3 t).any fun q => decide (q ∈ pairs3 l)) = false) : Fine v (l ++ [t]) := by
  refine ⟨fun x hx => ?_, ?_⟩
  · rcases List.mem_append.1 hx with hx | hx
    · exact h.rng x hx
    · rw [List.mem_singleton] at hx; rw [hx]; exact ht
  · rw [pairs3_append, pairs3_one]
    refine List.nodup_append.2 ⟨h.once, prs3_nodup ht, fun x hx y hy e => ?_⟩
    have := List.any_eq_false.1 hf y hy
    subst e
    simp [hx] at this
theorem firstP_in {v : Nat} {S : List Pr} {p : Pr} (h : firstP v S = some p) : 0 ≤ p.1 ∧ p.1 < p.2 ∧ p.2 < (v : Int) := allP_mem.1 (List.mem_of_find?_eq_some h)
theorem growF_fine {v : Nat} : ∀ (f : Nat) (l r : List Tr), Fine v l → growF v f l = some r → Fine v r := by
  intro f
  induction f with
  | zero => intro l r _ h; cases h
  | succ f ih =>
    intro l r hl h
    rw [growF] at h
    cases hp : firstP v (pairs3 l) with
    | none => rw [hp] at h; injection h with h; rw [← h]; exact hl
    | some p =>
      rw [hp] at h
      dsimp only at h
      obtain ⟨z, hz, hr⟩ := List.exists_of_findSome?_eq_some h
      rw [List.mem_range'_1] at hz
      have hi := firstP_in hp
      by_cases hc : ((prs3 (p.1, p.2, (z : Int))).any fun q => decide (q ∈ pairs3 l)) = true
      · rw [if_pos hc] at hr; cases hr
      · rw [if_neg hc] at hr
        exact ih _ _ (hl.more ⟨hi.1, hi.2.1, by dsimp only; omega, by dsimp only; omega⟩ (by simpa using hc)) hr
/-- where the search stands in memory -/
structure Tog (v n0 mb cm cv co cf : Nat) (H : Hp) (w : Sl) (l : List Tr) : Prop where
  mp : MapP H mb (pairs3 l)
  m : H.get cm = some (.cells [.map mb] false)
  v : H.get cv = some (.cells [.int .i64 v] false)
  o : H.get co = some (.cells [.sl w] false)
  f : H.get cf = some (.cells [.fn 94 [] [.ptr cm 0, .ptr cv 0, .ptr co 0, .ptr cf 0]] false)
  b : Buf n0 H w l
structure Apt (n0 mb cm cv co cf : Nat) : Prop where
  lt : mb < n0 ∧ cm < n0 ∧ cv < n0 ∧ co < n0 ∧ cf < n0
  ne : cm ≠ mb ∧ cv ≠ mb ∧ co ≠ mb ∧ cf ≠ mb ∧ cm ≠ co ∧ cv ≠ co ∧ cf ≠ co
/-- what may have changed -/
def Fr (mb co : Nat) (w w' : Sl) (H H' : Hp) : Prop := H.n ≤ H'.n ∧ (∀ c, c < H.n → c ≠ mb → c ≠ co → (w.nil = false → c ≠ w.b) → H'.get c = H.get c) ∧ (w'.nil = false → (w.nil = false ∧ w'.b = w.b) ∨ H.n ≤ w'.b)
theorem Fr.trans {mb co : Nat} {w w' w2 : Sl} {A B C : Hp} (h : Fr mb co w w' A B) (k : Fr mb co w' w2 B C) : Fr mb co w w2 A C := by
  refine ⟨Nat.le_trans h.1 k.1, fun c hc h1 h2 h3 => ?_, fun hn => ?_⟩
  · have := h.1
    rw [k.2.1 c (by omega) h1 h2 (fun hn e => ?_), h.2.1 c hc h1 h2 h3]
    rcases h.2.2 hn with ⟨a, b⟩ | b
    · exact h3 a (by omega)
    · omega
  · rcases k.2.2 hn with ⟨a, b⟩ | b
    · rcases h.2.2 a with ⟨c, d⟩ | d
      · exact .inl ⟨c, by omega⟩
      · exact .inr (by omega)
    · have := h.1
      exact .inr (by omega)
theorem Fr.same {mb co : Nat} {w : Sl} {A B : Hp} (h : A.n ≤ B.n) (k : ∀ c, c < A.n → c ≠ mb → c ≠ co → B.get c = A.get c) : Fr mb co w w A B := ⟨h, fun c hc h1 h2 _ => k c hc h1 h2, fun hn => .inl ⟨hn, rfl⟩⟩
theorem Fr.gr {mb co : Nat} {w : Sl} {A B : Hp} (g : Gr A B) : Fr mb co w w A B := .same g.1 fun c hc _ _ => g.2 c hc
theorem Tog.gr {v n0 mb cm cv co cf : Nat} {H H' : Hp} {w : Sl} {l : List Tr} (h : Tog v n0 mb cm cv co cf H w l) (g : Gr H H') : Tog v n0 mb cm cv co cf H' w l :=
  ⟨h.mp.keep (g.2 _ (Hp.get_lt h.mp.1)), by rw [g.2 _ (Hp.get_lt h.m)]; exact h.m, by rw [g.2 _ (Hp.get_lt h.v)]; exact h.v, by rw [g.2 _ (Hp.get_lt h.o)]; exact h.o, by rw [g.2 _ (Hp.get_lt h.f)]; exact h.f, h.b.gr g⟩
/-- the map changed -/
theorem Tog.map {v n0 mb cm cv co cf : Nat} (ap : Apt n0 mb cm cv co cf) {H H' : Hp} {w : Sl} {l l' : List Tr} (h : Tog v n0 mb cm cv co cf H w l) (g : Only mb H H') (hm : MapP H' mb (pairs3 l')) :
    MapP H' mb (pairs3 l') ∧ H'.get cm = some (.cells [.map mb] false) ∧ H'.get cv = some (.cells [.int .i64 v] false) ∧ H'.get co = some (.cells [.sl w] false) ∧ H'.get cf = some (.cells [.fn 94 [] [.ptr cm 0, .ptr cv 0, .ptr co 0, .ptr cf 0]] false) ∧ Buf n0 H' w l := by
  obtain ⟨a, b, c, d, e⟩ := ap.lt
  refine ⟨hm, by rw [g.2 _ (Hp.get_lt h.m) ap.ne.1]; exact h.m, by rw [g.2 _ (Hp.get_lt h.v) ap.ne.2.1]; exact h.v, by rw [g.2 _ (Hp.get_lt h.o) ap.ne.2.2.1]; exact h.o, by rw [g.2 _ (Hp.get_lt h.f) ap.ne.2.2.2.1]; exact h.f, h.b.keep fun hn => ?_⟩
  have := h.b.lt hn
  exact g.2 _ this.1 (by omega)
theorem ldM_get {H : Hp} {b o : Nat} {cs : List AV} {ro : Bool} {n : Nat} (h : H.get b = some (.cells cs ro)) (e : cs[o]? = some (.map n)) : H.ldM b o = some n := by
  simp [Hp.ldM, ld_of_get h, e, AV.asM]
end Go.Lt.P8
