/- THE LIBRARY OF THESE PROOFS, A PART: an abstract heap, and that the model's steps keep to it. Nothing is asked of the input. -/
import Derived.Test.YthmhdbmpeepmaaaLOps
set_option linter.unusedVariables false
set_option linter.unusedSimpArgs false
namespace Go.Lt
open Go.RowKit

/-! ### memory -/
def Hp.ld (H : Hp) (b o : Nat) : Option AV :=
  match H.get b with
  | some (.cells cs _) => cs[o]?
  | _ => none
def Hp.lds (H : Hp) (b : Nat) : Nat → Nat → Option (List AV)
  | _, 0 => some []
  | o, n + 1 => (H.ld b o).bind fun x => (Hp.lds H b (o + 1) n).map (x :: ·)
def Hp.st (H : Hp) (b o : Nat) (v : AV) : Option Hp :=
  match H.get b with
  | some (.cells cs false) => if o < cs.length then some (H.set b (.cells (cs.set o v) false)) else none
  | _ => none
def Hp.sts (H : Hp) (b : Nat) : Nat → List AV → Option Hp
  | _, [] => some H
  | o, v :: vs => (H.st b o v).bind fun H1 => Hp.sts H1 b (o + 1) vs

theorem lds_nil {H : Hp} {b o : Nat} : H.lds b o 0 = some [] := rfl
theorem lds_cons {H : Hp} {b o n : Nat} {x : AV} {xs : List AV} (h : H.ld b o = some x) (hs : H.lds b (o + 1) n = some xs) :
    H.lds b o (n + 1) = some (x :: xs) := by
  simp [Hp.lds, h, hs]
theorem lds_cons_inv {H : Hp} {b o n : Nat} {l : List AV} (h : H.lds b o (n + 1) = some l) :
    ∃ x xs, l = x :: xs ∧ H.ld b o = some x ∧ H.lds b (o + 1) n = some xs := by
  simp only [Hp.lds] at h
  cases h1 : H.ld b o with
  | none => simp [h1] at h
  | some x =>
    cases h2 : H.lds b (o + 1) n with
    | none => simp [h1, h2] at h
    | some xs => simp [h1, h2] at h; exact ⟨x, xs, h.symm, rfl, rfl⟩

def AV.one : AV → Bool
  | .agg _ | .tup _ | .undef => false
  | _ => true
def AV.cellsA : AV → List AV
  | .agg cs => cs
  | v => [v]

theorem RV.one_conc {m : Nat → Loc} {n : Nat} {x : AV} {v : Value} (h : RV m n x v) (ho : x.one = true) : v.oneCell' = true := by
  cases h <;> first | rfl | simp [AV.one] at ho

section
variable {B : Nat} {w0 w : World} {m : Nat → Loc} {H : Hp}

theorem Inv.ld (hi : Inv B w0 m H w) {b o : Nat} {x : AV} (h : H.ld b o = some x) (sh : Nat) (hsh : sh = (m b).sh + o) :
    ∃ v, w.cell? ⟨(m b).blk, sh, none⟩ = some v ∧ RV m H.n x v := by
  subst hsh
  unfold Hp.ld at h
  split at h
  · rename_i cs ro hg
    obtain ⟨c, e, fr, hh, hz, hl, hc, _⟩ := hi.rel b _ hg
    obtain ⟨hlt, rfl⟩ := List.getElem?_eq_some_iff.1 h
    obtain ⟨v, hv, hr⟩ := hc o hlt
    exact ⟨v, by simp [World.cell?, hh, hv], hr⟩
  · cases h

theorem addr_add (a o j : Nat) : (⟨a, o, none⟩ : Addr).add j = ⟨a, o + j, none⟩ := by
  unfold Addr.add
  split
  · rename_i h; subst h; rfl
  · rfl

theorem loadCellsFrom_run (P : Program) (a : Addr) : ∀ (n i : Nat) (acc vs : Array Value), (∀ j (h : j < vs.size), w.cell? (a.add (i + j)) = some vs[j]) → vs.size = n →
    (loadCellsFrom a i n acc).run P w = .ok (acc ++ vs) w := by
  intro n
  induction n with
  | zero =>
    intro i acc vs _ hz
    have : vs = #[] := by simpa using hz
    subst this
    simp [loadCellsFrom]
  | succ n ih =>
    intro i acc vs hv hz
    have h0 := hv 0 (by omega)
    simp only [Nat.add_zero] at h0
    simp only [loadCellsFrom, Sem.run_bind, run_load, h0, Result.andThen_ok]
    have hs : vs = #[vs[0]] ++ vs.extract 1 vs.size := by
      apply Array.ext
      · simp; omega
      · intro j h1 h2
        cases j with
        | zero => simp
        | succ j => simp; congr 1; omega
    rw [ih (i + 1) (acc.push vs[0]) (vs.extract 1 vs.size) (fun j h => by
      have h' : j < vs.size - 1 := by simpa using h
      have := hv (1 + j) (by omega)
      rw [show i + 1 + j = i + (1 + j) by omega, this]
      simp) (by simp; omega)]
    conv => rhs; rw [hs]
    simp

theorem Inv.lds (hi : Inv B w0 m H w) (P : Program) {b : Nat} : ∀ {n o : Nat} {xs : List AV}, H.lds b o n = some xs →
    ∃ vs : List Value, vs.length = n ∧ (∀ j (h : j < vs.length), w.cell? ⟨(m b).blk, (m b).sh + o + j, none⟩ = some vs[j]) ∧ RVs m H.n xs vs := by
  intro n
  induction n with
  | zero =>
    intro o xs h
    simp [Hp.lds] at h
    subst h
    exact ⟨[], rfl, fun j h => absurd h (by simp), .nil⟩
  | succ n ih =>
    intro o xs h
    obtain ⟨x, xs, rfl, h1, h2⟩ := lds_cons_inv h
    obtain ⟨vs, hl, hc, hr⟩ := ih h2
    obtain ⟨v, hv, hrv⟩ := hi.ld h1 _ rfl
    refine ⟨v :: vs, by simp [hl], fun j h => ?_, .cons hrv hr⟩
    cases j with
    | zero => simpa using hv
    | succ j =>
      have := hc j (by simpa using h)
      rw [show (m b).sh + (o + 1) + j = (m b).sh + o + (j + 1) by omega] at this
      simpa using this

theorem loadCells_run (P : Program) {b o : Nat} {vs : List Value} (hc : ∀ j (h : j < vs.length), w.cell? ⟨b, o + j, none⟩ = some vs[j]) :
    (loadCells ⟨b, o, none⟩ vs.length).run P w = .ok vs.toArray w := by
  unfold loadCells
  rw [loadCellsFrom_run P ⟨b, o, none⟩ vs.length 0 #[] vs.toArray (fun j h => ?_) (by simp)]
  · simp
  · rw [addr_add]
    have h' : j < vs.length := by simpa using h
    have := hc j h'
    rw [show o + (0 + j) = o + j by omega, this]
    simp

/-- a world with a new block -/
def newLoc (H : Hp) (m : Nat → Loc) (l : Loc) : Nat → Loc := fun b => if b = H.n then l else m b
theorem newLoc_ext (H : Hp) (m : Nat → Loc) (l : Loc) : Ext H.n m (newLoc H m l) := fun b hb => by unfold newLoc; rw [if_neg (by omega)]
@[simp] theorem newLoc_new (H : Hp) (m : Nat → Loc) (l : Loc) : newLoc H m l H.n = l := by unfold newLoc; rw [if_pos rfl]
theorem newLoc_old {H : Hp} {m : Nat → Loc} {l : Loc} {b : Nat} (h : b < H.n) : newLoc H m l b = m b := newLoc_ext H m l b h

theorem CellsAt.mono {m m' : Nat → Loc} {n n' : Nat} {c : Array Value} {sh : Nat} {cs : List AV} (h : CellsAt m n c sh cs) (he : Ext n m m') (hn : n ≤ n') : CellsAt m' n' c sh cs :=
  fun i hi => by
    obtain ⟨v, hv, hr⟩ := h i hi
    exact ⟨v, hv, hr.mono he hn⟩

theorem BlkRel.mono {m m' : Nat → Loc} {n n' : Nat} {w w' : World} {b : Nat} {k : Blk} (h : BlkRel B m n w b k) (he : Ext n m m') (hn : n ≤ n') (hb : b < n)
    (hw : k.live = true → w'.heap[(m b).blk]? = w.heap[(m b).blk]?) : BlkRel B m' n' w' b k := by
  have hm := he b hb
  cases k with
  | cells cs ro =>
    obtain ⟨c, e, fr, hh, hz, hl, hc, hro⟩ := h
    unfold BlkRel
    rw [hm, hw rfl]
    exact ⟨c, e, fr, hh, hz, hl, hc.mono he hn, hro⟩
  | map kt es =>
    obtain ⟨ents, clock, hh, hB, hs, hk, hp⟩ := h
    unfold BlkRel
    rw [hm, hw rfl]
    exact ⟨ents, clock, hh, hB, hs, hk, fun i h1 h2 => ⟨(hp i h1 h2).1.mono he hn, (hp i h1 h2).2.mono he hn⟩⟩
  | iter s pos =>
    unfold BlkRel at h ⊢
    rw [hm, hw rfl]
    exact h
  | dead => trivial

theorem Inv.blk_lt (hi : Inv B w0 m H w) {b : Nat} {k : Blk} (h : H.get b = some k) (hl : k.live = true) : (m b).blk < w.heap.size := by
  have hr := hi.rel b k h
  have : ∃ o, w.heap[(m b).blk]? = some o := by
    cases k with
    | cells cs ro => obtain ⟨c, e, fr, hh, _⟩ := hr; exact ⟨_, hh⟩
    | map kt es => obtain ⟨en, cl, hh, _⟩ := hr; exact ⟨_, hh⟩
    | iter s pos => exact ⟨_, hr.1⟩
    | dead => simp [Blk.live] at hl
  obtain ⟨o, ho⟩ := this
  exact (Array.getElem?_eq_some_iff.1 ho).1

theorem Inv.drew (hi : Inv B w0 m H w) : Inv B w0 m H w.drew :=
  ⟨hi.below.drew, hi.hB, fun b k h => (hi.rel b k h).mono (.refl _ _) (Nat.le_refl _) (Hp.get_lt h) (fun _ => rfl), hi.excl⟩

/-- a new block -/
theorem Inv.push (hi : Inv B w0 m H w) (o : Obj) (k : Blk) (l : Loc) (hl : l.blk = w.heap.size)
    (hk : BlkRel B (newLoc H m l) (H.n + 1) (w.alloc o) H.n k) : Inv B w0 (newLoc H m l) (H.push k) (w.alloc o) where
  below := hi.below.alloc hi.hB o
  hB := by have := hi.hB; simp; omega
  rel := fun b k' h => by
    rw [Hp.get_push] at h
    by_cases e : b = H.n
    · subst e
      rw [if_pos rfl] at h
      cases h
      exact hk
    · rw [if_neg e] at h
      have hb := Hp.get_lt h
      refine (hi.rel b k' h).mono (newLoc_ext H m l) (by simp) hb (fun hl => ?_)
      exact Below.heap_alloc w o _ (hi.blk_lt h hl)
  excl := fun b b' k1 k2 hne h1 h2 ho hl2 => by
    rw [Hp.get_push] at h1 h2
    by_cases e : b = H.n
    · rw [if_neg (by omega)] at h2
      subst e
      rw [newLoc_new, newLoc_old (Hp.get_lt h2), hl]
      have := hi.blk_lt h2 hl2
      omega
    · rw [if_neg e] at h1
      by_cases e' : b' = H.n
      · subst e'
        rw [newLoc_new, newLoc_old (Hp.get_lt h1), hl]
        have hlive : k1.live = true := by cases k1 <;> simp_all [Blk.owned, Blk.live]
        have := hi.blk_lt h1 hlive
        omega
      · rw [if_neg e'] at h2
        rw [newLoc_old (Hp.get_lt h1), newLoc_old (Hp.get_lt h2)]
        exact hi.excl b b' k1 k2 hne h1 h2 ho hl2

theorem Inv.pushCells (hi : Inv B w0 m H w) {cs : List AV} {vs : Array Value} (t : TypeId) (h : RVs m H.n cs vs.toList) (cs' : List AV) (hp : cs = cs' ++ cs.drop cs'.length) :
    Inv B w0 (newLoc H m ⟨w.heap.size, 0, vs.size⟩) (H.push (.cells cs' false)) (w.alloc (.cells vs t)) := by
  refine hi.push _ _ _ rfl ?_
  have hl := h.1
  simp only [Array.length_toList] at hl
  have hlen : cs'.length ≤ cs.length := by
    have := congrArg List.length hp
    simp at this
    omega
  refine ⟨vs, t, (0, 0), ?_, ?_, ?_, ?_, ?_⟩
  · show (w.heap.push _)[(newLoc H m _ H.n).blk]? = _
    rw [newLoc_new]; simp
  · rw [newLoc_new]
  · rw [newLoc_new]; simp only [Nat.zero_add]; omega
  · intro i hi'
    have h1 : i < cs.length := by omega
    have h2 : i < vs.toList.length := by simp; omega
    refine ⟨vs.toList[i], ?_, ?_⟩
    · rw [newLoc_new]; simp
    · have := (h.2 i h1 h2).mono (newLoc_ext H m ⟨w.heap.size, 0, vs.size⟩) (Nat.le_succ _)
      have e : cs'[i] = cs[i] := by
        have : cs[i]? = (cs' ++ cs.drop cs'.length)[i]? := by rw [← hp]
        rw [List.getElem?_append_left hi', List.getElem?_eq_getElem h1, List.getElem?_eq_getElem hi'] at this
        exact (Option.some.inj this).symm
      rw [e]; exact this
  · intro _; rw [newLoc_new]; exact ⟨.zero _, hi.hB⟩

/-- a store -/
theorem Inv.st (hi : Inv B w0 m H w) {b o : Nat} {x : AV} {v : Value} {H1 : Hp} (h : H.st b o x = some H1) (hv : RV m H.n x v) (ho : x.one = true) (P : Program) :
    (store ⟨(m b).blk, (m b).sh + o, none⟩ v).run P w = .ok () (w.setCell ⟨(m b).blk, (m b).sh + o, none⟩ v) ∧
    Inv B w0 m H1 (w.setCell ⟨(m b).blk, (m b).sh + o, none⟩ v) ∧ H1.n = H.n := by
  unfold Hp.st at h
  split at h
  case h_2 => cases h
  rename_i cs hg
  split at h
  case isFalse => cases h
  rename_i hlt
  injection h with h
  subst h
  obtain ⟨c, te, fr, hh, hz, hl, hc, hro⟩ := hi.rel b _ hg
  obtain ⟨hfz, hB⟩ := hro rfl
  obtain ⟨u, hu, hru⟩ := hc o hlt
  have hcell : w.cell? ⟨(m b).blk, (m b).sh + o, none⟩ = some u := by simp [World.cell?, hh, hu]
  have hfr : w.frozen? ⟨(m b).blk, (m b).sh + o, none⟩ = false := by
    have := hfz ((m b).sh + o) (by omega)
    obtain ⟨lo, hi⟩ := fr
    simp only [World.frozen?, hh]
    simpa using this
  refine ⟨?_, ?_, by simp⟩
  · rw [run_store P w _ v .plain (hv.one_conc ho), hcell, hfr]
    simp
  · have hheap : ∀ k, k ≠ (m b).blk → (w.setCell ⟨(m b).blk, (m b).sh + o, none⟩ v).heap[k]? = w.heap[k]? := fun k hk => Below.heap_setCell w _ _ _ hk
    refine ⟨hi.below.setCell hB v, by simpa using hi.hB, fun b' k' h' => ?_, fun b1 b2 k1 k2 hne h1 h2 ho1 hl2 => ?_⟩
    · by_cases e : b' = b
      · subst e
        rw [Hp.get_set_same H _ (Hp.get_lt hg)] at h'
        injection h' with h'
        subst h'
        refine ⟨c.setIfInBounds ((m b').sh + o) v, te, fr, ?_, by simpa using hz, by simpa using hl, ?_, fun _ => ⟨by simpa using hfz, hB⟩⟩
        · simp only [World.setCell, Array.getElem?_modify]
          rw [if_pos trivial, hh]
          rfl
        · intro i hi'
          have hi2 : i < cs.length := by simpa using hi'
          simp only [Hp.n_set]
          by_cases ei : i = o
          · subst ei
            refine ⟨v, ?_, by simpa using hv⟩
            have : (m b').sh + i < c.size := by omega
            simp [this]
          · obtain ⟨u', hu', hr'⟩ := hc i hi2
            refine ⟨u', ?_, ?_⟩
            · rw [Array.getElem?_setIfInBounds_ne (by omega)]; exact hu'
            · rw [List.getElem_set_ne (Ne.symm ei)]; exact hr'
      · rw [Hp.get_set_other H _ e] at h'
        refine (hi.rel b' k' h').mono (.refl _ _) (by simp) (Hp.get_lt h') (fun hl' => hheap _ ?_)
        exact fun e2 => hi.excl b b' _ _ (Ne.symm e) hg h' rfl hl' e2.symm
    · have old : ∀ b' k', (H.set b (.cells (cs.set o x) false)).get b' = some k' → ∃ k'', H.get b' = some k'' ∧ k''.owned = k'.owned ∧ k''.live = k'.live := by
        intro b' k' h'
        by_cases e : b' = b
        · subst e
          rw [Hp.get_set_same H _ (Hp.get_lt hg)] at h'
          injection h' with h'
          subst h'
          exact ⟨_, hg, rfl, rfl⟩
        · rw [Hp.get_set_other H _ e] at h'
          exact ⟨k', h', rfl, rfl⟩
      obtain ⟨k1', g1, o1, _⟩ := old _ _ h1
      obtain ⟨k2', g2, _, l2⟩ := old _ _ h2
      exact hi.excl b1 b2 k1' k2' hne g1 g2 (o1 ▸ ho1) (l2 ▸ hl2)

theorem Inv.sts (hi : Inv B w0 m H w) (P : Program) {b : Nat} : ∀ {xs : List AV} {o i : Nat} {vs : List Value} {H H1 : Hp} {w : World}, Inv B w0 m H w → H.sts b (o + i) xs = some H1 → RVs m H.n xs vs →
    (∀ x ∈ xs, x.one = true) → ∃ w', (storeCells ⟨(m b).blk, (m b).sh + o, none⟩ vs i).run P w = .ok () w' ∧ Inv B w0 m H1 w' ∧ H1.n = H.n := by
  intro xs
  induction xs with
  | nil =>
    intro o i vs H H1 w hi h hv ho
    rw [hv.nil_inv]
    simp [Hp.sts] at h
    subst h
    exact ⟨w, by simp [storeCells], hi, rfl⟩
  | cons x xs ih =>
    intro o i vs H H1 w hi h hv ho
    obtain ⟨v, vs, rfl, hv1, hvs⟩ := hv.cons_inv
    simp only [Hp.sts] at h
    cases h1 : H.st b (o + i) x with
    | none => simp [h1] at h
    | some H2 =>
      simp only [h1, Option.bind_some] at h
      obtain ⟨hr, hi2, hn⟩ := hi.st h1 hv1 (ho x (by simp)) P
      obtain ⟨w', hr', hi', hn'⟩ := ih (o := o) (i := i + 1) hi2 (by rw [← Nat.add_assoc]; exact h) (by rw [hn]; exact hvs) (fun y hy => ho y (by simp [hy]))
      refine ⟨w', ?_, hi', hn'.trans hn⟩
      simp only [storeCells, Sem.run_bind]
      rw [addr_add, show (m b).sh + o + i = (m b).sh + (o + i) by omega, hr]
      simpa using hr'
end
end Go.Lt
