/- THE LIBRARY OF THESE PROOFS, A PART: an abstract heap, and that the model's steps keep to it. Nothing is asked of the input. -/
import Derived.Test.YthmhdbmpeepmaaaLSOps
set_option linter.unusedVariables false
set_option linter.unusedSimpArgs false
namespace Go.Lt
open Go.RowKit

/-! ### append -/
def Hp.app (H : Hp) (es : Nat) (s : Sl) (vs : List AV) (n : Nat) : Option (Sl × Hp) :=
  if s.len + n ≤ 4294967296 then
    if s.len + n ≤ s.cap then
      if s.nil then some (s, H)
      else (H.sts s.b (s.o + s.len * es) vs).map fun H1 => (⟨false, s.b, s.o, s.len + n, s.cap, s.opn⟩, H1)
    else (H.lds s.b s.o (s.len * es)).bind fun old =>
      if s.opn = 0 then some (⟨false, H.n, 0, s.len + n, s.len + n, es⟩, H.push (.cells (old ++ vs) false))
      else if s.opn = es then
        match H.get s.b with
        | some (.cells _ false) => some (⟨false, H.n, 0, s.len + n, s.len + n, es⟩, (H.set s.b .dead).push (.cells (old ++ vs) false))
        | _ => none
      else none
  else none

section
variable {B : Nat} {w0 w : World} {m : Nat → Loc} {H : Hp}

theorem Inv.setBlk (hi : Inv B w0 m H w) {b : Nat} {k0 k : Blk} (hg : H.get b = some k0) (ho : k.owned = true → k0.owned = true) (hl : k.live = true → k0.live = true)
    (hr : BlkRel B m H.n w b k) : Inv B w0 m (H.set b k) w where
  below := hi.below
  hB := hi.hB
  rel := fun b' k' h' => by
    rw [Hp.n_set]
    by_cases e : b' = b
    · subst e
      rw [Hp.get_set_same H _ (Hp.get_lt hg)] at h'
      injection h' with h'
      subst h'
      exact hr
    · rw [Hp.get_set_other H _ e] at h'
      exact hi.rel b' k' h'
  excl := fun b1 b2 k1 k2 hne h1 h2 ho1 hl2 => by
    have old : ∀ b' k', (H.set b k).get b' = some k' → ∃ k'', H.get b' = some k'' ∧ (k'.owned = true → k''.owned = true) ∧ (k'.live = true → k''.live = true) := by
      intro b' k' h'
      by_cases e : b' = b
      · subst e
        rw [Hp.get_set_same H _ (Hp.get_lt hg)] at h'
        injection h' with h'
        subst h'
        exact ⟨_, hg, ho, hl⟩
      · rw [Hp.get_set_other H _ e] at h'
        exact ⟨k', h', id, id⟩
    obtain ⟨k1', g1, o1, _⟩ := old _ _ h1
    obtain ⟨k2', g2, _, l2⟩ := old _ _ h2
    exact hi.excl b1 b2 k1' k2' hne g1 g2 (o1 ho1) (l2 hl2)

theorem Inv.kill (hi : Inv B w0 m H w) {b : Nat} {k : Blk} (hg : H.get b = some k) : Inv B w0 m (H.set b .dead) w :=
  hi.setBlk hg (fun h => by cases h) (fun h => by cases h) trivial

theorem Inv.extend (hi : Inv B w0 m H w) {b k : Nat} {cs : List AV} (hg : H.get b = some (.cells cs false)) (hk : (m b).sh + cs.length + k ≤ (m b).sz) :
    Inv B w0 m (H.set b (.cells (cs ++ List.replicate k .undef) false)) w := by
  refine hi.setBlk hg (fun _ => rfl) (fun _ => rfl) ?_
  obtain ⟨c, te, fr, hh, hz, hl, hc, hro⟩ := hi.rel b _ hg
  refine ⟨c, te, fr, hh, hz, by simp; omega, fun i h => ?_, hro⟩
  by_cases hlt : i < cs.length
  · obtain ⟨v, hv, hr⟩ := hc i hlt
    exact ⟨v, hv, by rw [List.getElem_append_left hlt]; exact hr⟩
  · have h' : i < cs.length + k := by simpa using h
    have hsz : (m b).sh + i < c.size := by omega
    refine ⟨c[(m b).sh + i], by simp [hsz], ?_⟩
    rw [List.getElem_append_right (by omega)]
    simp
    exact .undef _

/-- a block under a new number, its first cells left away -/
theorem Inv.rename (hi : Inv B w0 m H w) {b o : Nat} {cs cs' : List AV} (hg : H.get b = some (.cells cs false)) (ho : o + cs'.length ≤ cs.length)
    (hcs : ∀ i (h : i < cs'.length), cs'[i] = cs[o + i]'(by omega)) :
    Inv B w0 (newLoc H m ⟨(m b).blk, (m b).sh + o, (m b).sz⟩) ((H.set b .dead).push (.cells cs' false)) w := by
  have hk := hi.kill hg
  have hb := Hp.get_lt hg
  obtain ⟨c, te, fr, hh, hz, hl, hc, hro⟩ := hi.rel b _ hg
  have hn : (H.set b .dead).n = H.n := by simp
  have hm : newLoc (H.set b .dead) m ⟨(m b).blk, (m b).sh + o, (m b).sz⟩ = newLoc H m ⟨(m b).blk, (m b).sh + o, (m b).sz⟩ := by
    unfold newLoc; rw [hn]
  refine ⟨hi.below, hi.hB, fun b' k' h' => ?_, fun b1 b2 k1 k2 hne h1 h2 ho1 hl2 => ?_⟩
  · rw [Hp.get_push, hn] at h'
    by_cases e : b' = H.n
    · subst e
      rw [if_pos rfl] at h'
      injection h' with h'
      subst h'
      unfold BlkRel
      rw [newLoc_new]
      refine ⟨c, te, fr, hh, hz, by simp only; omega, fun i h => ?_, fun _ => hro rfl⟩
      obtain ⟨v, hv, hr⟩ := hc (o + i) (by omega)
      refine ⟨v, ?_, ?_⟩
      · simp only
        rw [show (m b).sh + o + i = (m b).sh + (o + i) by omega]
        exact hv
      · rw [hcs i h]
        exact hr.mono (newLoc_ext _ _ _) (by simp)
    · rw [if_neg e] at h'
      have hlt := Hp.get_lt h'
      rw [hn] at hlt
      exact (hk.rel b' k' h').mono (by rw [hn]; exact newLoc_ext _ _ _) (by simp) (by rw [hn]; exact hlt) (fun _ => rfl)
  · have dead : ∀ b' k', (H.set b .dead).get b' = some k' → k'.live = true → b' ≠ b ∧ H.get b' = some k' := by
      intro b' k' h' hl'
      by_cases e : b' = b
      · subst e
        rw [Hp.get_set_same H _ hb] at h'
        injection h' with h'
        subst h'
        cases hl'
      · rw [Hp.get_set_other H _ e] at h'
        exact ⟨e, h'⟩
    have ol : k1.live = true := by cases k1 <;> simp_all [Blk.owned, Blk.live]
    rw [Hp.get_push, hn] at h1 h2
    by_cases e1 : b1 = H.n
    · rw [if_neg (by omega)] at h2
      obtain ⟨hnb, hg2⟩ := dead _ _ h2 hl2
      subst e1
      rw [newLoc_new, newLoc_old (Hp.get_lt hg2)]
      exact hi.excl b b2 _ k2 (Ne.symm hnb) hg hg2 rfl hl2
    · rw [if_neg e1] at h1
      obtain ⟨hnb1, hg1⟩ := dead _ _ h1 ol
      by_cases e2 : b2 = H.n
      · subst e2
        rw [newLoc_new, newLoc_old (Hp.get_lt hg1)]
        exact hi.excl b1 b k1 _ hnb1 hg1 hg ho1 rfl
      · rw [if_neg e2] at h2
        obtain ⟨hnb2, hg2⟩ := dead _ _ h2 hl2
        rw [newLoc_old (Hp.get_lt hg1), newLoc_old (Hp.get_lt hg2)]
        exact hi.excl b1 b2 k1 k2 hne hg1 hg2 ho1 hl2
end

theorem grow_le (need : Nat) : ∀ (r c : Nat), c ≤ need → Builtin.growBy need r c ≤ 2 * need + 1000 := by
  intro r
  induction r with
  | zero => intro c h; simp [Builtin.growBy]; omega
  | succ r ih =>
    intro c h
    simp only [Builtin.growBy]
    split
    · omega
    · by_cases h2 : c + (c + 768) / 4 ≤ need
      · exact ih _ h2
      · cases r with
        | zero => simp [Builtin.growBy]; omega
        | succ r => simp only [Builtin.growBy]; rw [if_pos (by omega)]; omega
theorem nextcap_le {need old : Nat} (h : old < need) : Builtin.nextslicecap need old ≤ 2 * need + 1000 := by
  unfold Builtin.nextslicecap
  split
  · omega
  · split
    · omega
    · exact grow_le _ _ _ (by omega)

theorem app_mono {H : Hp} {es n : Nat} {s s' : Sl} {vs : List AV} {H1 : Hp} (h : H.app es s vs n = some (s', H1)) : H.n ≤ H1.n := by
  have sts : ∀ (vs : List AV) (H H1 : Hp) (o b : Nat), H.sts b o vs = some H1 → H.n ≤ H1.n := by
    intro vs
    induction vs with
    | nil => intro H H1 o b h; simp [Hp.sts] at h; subst h; exact Nat.le_refl _
    | cons v vs ih =>
      intro H H1 o b h
      simp only [Hp.sts] at h
      cases h1 : H.st b o v with
      | none => simp [h1] at h
      | some H2 =>
        simp only [h1, Option.bind_some] at h
        refine Nat.le_trans ?_ (ih H2 H1 _ _ h)
        unfold Hp.st at h1
        split at h1
        · split at h1
          · injection h1 with h1; subst h1; simp
          · cases h1
        · cases h1
  unfold Hp.app at h
  split at h
  case isFalse => cases h
  split at h
  · split at h
    · injection h with h; injection h with _ h; subst h; exact Nat.le_refl _
    · simp only [Option.map_eq_some_iff] at h
      obtain ⟨H2, h1, h2⟩ := h
      injection h2 with _ h2
      subst h2
      exact sts _ _ _ _ _ h1
  · simp only [Option.bind_eq_some_iff] at h
    obtain ⟨old, h1, h⟩ := h
    split at h
    · injection h with h; injection h with _ h; subst h; simp
    · split at h
      · split at h
        · injection h with h; injection h with _ h; subst h; simp
        · cases h
      · cases h

theorem firstCells_run {P : Program} {B : Nat} {w0 w : World} {m : Nat → Loc} {H : Hp} (hi : Inv B w0 m H w) {s : Sl} {v : Value} {es : Nat} {vs : List AV} (h : RV m H.n (.sl s) v)
    (hl : H.lds s.b s.o (s.len * es) = some vs) : ∃ us, (Builtin.firstCells es s.len v).run P w = .ok us w ∧ RVs m H.n vs us.toList := by
  rcases h.sl_inv with ⟨rfl, e⟩ | ⟨a, _, _, h0, _, e⟩ | ⟨cap', _, _, _, _, _, _, e⟩
  · simp [Hp.lds] at hl
    subst hl
    exact ⟨#[], by simp [e, Builtin.firstCells], .nil⟩
  · rw [h0, Nat.zero_mul] at hl
    simp [Hp.lds] at hl
    subst hl
    exact ⟨#[], by simp [e, h0, Builtin.firstCells, loadCells, loadCellsFrom], .nil⟩
  · obtain ⟨us, hlen, hc, hv⟩ := hi.lds P hl
    refine ⟨us.toArray, ?_, by simpa using hv⟩
    have := loadCells_run (w := w) P hc
    rw [hlen] at this
    simp [e, Builtin.firstCells, this]

theorem ld_drew {w : World} (a : Addr) : w.drew.cell? a = w.cell? a := rfl

section
variable {P : Program} {F : Fr} {H : Hp} {d : Option Tmp} {ty : TypeId} {pos : String} {af : Array Edge} {g : Option (Nat × Bool)}

theorem lenOf_run {w : World} {a : Option Addr} {n c : Nat} : (Builtin.lenOf (.slice a n c)).run P w = .ok n w := by simp [Builtin.lenOf]

theorem append_place {st e xt e2 : TypeId} {es by' : Nat} {z : Value} {ats : Array TypeId} (h0 : ats[0]? = some st) (h1 : ats[1]? = some xt) (hu : P.underlying st = some (.slice e))
    (hxu : P.underlying xt = some (.slice e2)) (ht : TyIs P e es by' z) {w w' : World} {sa xa : Option Addr} {sl sc n xc : Nat} {us : Array Value} (hle : sl + n ≤ sc)
    (hf : (Builtin.firstCells es n (.slice xa n xc)).run P w = .ok us w)
    (hst : (match sa with | some a => storeCells (a.add (sl * es)) us.toList | none => Pure.pure () : Sem Unit).run P w = .ok () w') :
    (Builtin.append_ ats ty #[.slice sa sl sc, .slice xa n xc]).run P w = .ok (.slice sa (sl + n) sc) w' := by
  unfold Builtin.append_
  simp only [h0, h1, Sem.run_bind, run_und hu, run_size ht, run_und hxu, Result.andThen_ok, Sem.run_pure, List.getElem?_toArray, List.getElem?_cons_zero, List.getElem?_cons_succ]
  simp only [Bool.false_eq_true, if_false, Sem.run_bind, lenOf_run, Result.andThen_ok]
  rw [if_pos hle]
  simp only [Bool.not_false, if_true, Sem.run_bind, hf, Result.andThen_ok]
  cases sa with
  | none => simp at hst; subst hst; simp
  | some a => simp only [Sem.run_bind]; rw [hst]; simp

theorem append_new {st e xt e2 : TypeId} {es by' : Nat} {z : Value} {ats : Array TypeId} (h0 : ats[0]? = some st) (h1 : ats[1]? = some xt) (hu : P.underlying st = some (.slice e))
    (hxu : P.underlying xt = some (.slice e2)) (ht : TyIs P e es by' z) (hby : 1 ≤ by') {w : World} {sa xa : Option Addr} {sl sc n xc : Nat} {us vs : Array Value} (hle : ¬ sl + n ≤ sc)
    (hcap : Builtin.nextslicecap (sl + n) sc * by' ≤ 2 ^ 48)
    (ho : (Builtin.firstCells es sl (.slice sa sl sc)).run P w.drew = .ok us w.drew)
    (hf : (Builtin.firstCells es n (.slice xa n xc)).run P w.drew = .ok vs w.drew) :
    ∃ nc, sl + n ≤ nc ∧ (Builtin.append_ ats ty #[.slice sa sl sc, .slice xa n xc]).run P w =
      .ok (.slice (some ⟨w.heap.size, 0, none⟩) (sl + n) nc) (w.drew.alloc (.cells (us ++ vs ++ Builtin.zeroCells z.cells (nc - (sl + n))) e)) := by
  refine ⟨(Question.appendCap (sl + n) sc e).cut (w.tape w.drawn (.appendCap (sl + n) sc e)), by simp [Question.cut], ?_⟩
  obtain ⟨i, hinfo, hi1, hi2, hi3⟩ := run_info (w := w) ht
  obtain ⟨i', hinfo', _, hi2', _⟩ := run_info (w := w.drew) ht
  have hb0 : ¬ by' = 0 := by omega
  unfold Builtin.append_
  simp only [h0, h1, Sem.run_bind, run_und hu, run_size ht, run_und hxu, Result.andThen_ok, Sem.run_pure, List.getElem?_toArray, List.getElem?_cons_zero, List.getElem?_cons_succ]
  simp only [Bool.false_eq_true, if_false, Sem.run_bind, lenOf_run, Result.andThen_ok]
  rw [if_neg hle]
  simp only [Sem.run_bind, hinfo, Result.andThen_ok, hi2]
  rw [if_neg (by simp; omega)]
  simp only [Sem.run_bind, hinfo, Result.andThen_ok, hi2]
  rw [if_neg (by simpa using hcap)]
  simp only [Sem.run_bind, run_choose, Question.forced, Bool.false_eq_true, if_false, Result.andThen_ok, World.drew_eq, hinfo', run_askRoom, ho, Bool.not_false, if_true, hf, run_zero ht, Sem.run_pure]
  simp only [Go.newRow, Sem.run_bind, run_newObj, Result.andThen_ok, Sem.run_pure]
  rfl

theorem zeroCells_size (z : Array Value) (n : Nat) : (Builtin.zeroCells z n).size = n * z.size := by simp [Builtin.zeroCells]

end
end Go.Lt
